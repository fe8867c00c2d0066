import Derived.Test.YtoagfdpgnfinhaaGStreamOuts2
import Derived.Test.YtoagfdpgnfinhaaGStreamOuts5
import Derived.Test.YtoagfdpgnfinhaaGStreamOuts0
namespace Go.Proofs.Ytoagfdpgnfinhaa.Q
open Go.RowKit Go.Proofs.YtoagfdpgnfinhaaW.PrintWords Go.Proofs.YtoagfdpgnfinhaaW.PrintLast Go.Proofs.YtoagfdpgnfinhaaW.PrintMore
attribute [local go_sem] max2_int min2_int max_two min_two max_three min_three max_four min_four   -- for this text's walks alone
set_option linter.unusedVariables false
set_option linter.unusedSimpArgs false
def tenementlaw15_refTxn.f (k : Nat) (a0_0 : Int) (a0_1 : Int) (a0_2 : Int) (a0_3 : Int) (a0_4 : Int) (l0_5 : List (S107)) : Option (Int × Int × Int × Int × Int × (List (S117))) := (tenementlaw15_refStamp.f a0_0 a0_1 a0_2 a0_3 a0_4).bind fun bt291 => ((tenementlaw15_refWrites.f k l0_5).bind fun t296 => (some (bt291.1, bt291.2.1, bt291.2.2.1, bt291.2.2.2.1, bt291.2.2.2.2, t296)))
def tenementlaw15_refTxn.T1 : Bool × List (List Nat × List Nat) := (true, [([], []), ([0], [0]), ([1], [1]), ([], []), ([3], [3]), ([4, 2], [4]), ([2, 5], [2, 5]), ([6, 5, 0, 1, 2, 3, 4, 5, 6], [6])])
def tenementlaw15_refTxn.B1 : List Nat := [0, 1, 3, 0, 8, 31, 63, 127]
theorem tenementlaw15_refTxn.tab1 : rtab .any (opsOf Try.f18 1) = tenementlaw15_refTxn.T1 := by kernel_rfl
theorem tenementlaw15_refTxn.bits1 : waitsOk tenementlaw15_refTxn.T1.2 tenementlaw15_refTxn.B1 = true := by kernel_rfl
set_option maxHeartbeats 8000000 in
set_option maxRecDepth 100000 in
theorem tenementlaw15_refTxn.calls (k : Nat) (a0_0 : Int) (a0_1 : Int) (a0_2 : Int) (a0_3 : Int) (a0_4 : Int) (A0_5 : Option Addr) (c0_5 : Nat) (l0_5 : List (S107)) (r1 : Int) (r2 : Int) (r3 : Int) (r4 : Int) (r5 : Int) (r6 : List (S117)) (w : World) (hr0_5 : Kd.C k107 w A0_5 l0_5.length l0_5) (hc0_5 : l0_5.length ≤ c0_5) (h : tenementlaw15_refTxn.f k a0_0 a0_1 a0_2 a0_3 a0_4 l0_5 = some (r1, r2, r3, r4, r5, r6)) :
  Calls Try.prog 18 #[.agg #[.int .u64 a0_0, .int .u64 a0_1, .int .u64 a0_2, .int .u64 a0_3, .int .i64 a0_4, .slice A0_5 l0_5.length c0_5]] w fun e w' => ∃ v5_ : Value, e = .returned (.agg #[.int .u64 r1, .int .u64 r2, .int .u64 r3, .int .u64 r4, .int .i64 r5, v5_]) ∧ Kd.R k117 117 w' w.heap.size (fun _ => True) v5_ r6 ∧ Below w.heap.size w w' := by
 have hu33 := Try.underlying33
 have hu55 := Try.underlying55
 have hu30 := Try.underlying30
 have HR0_5 := Aside0.mk hr0_5
 have HC0_5 := Aside0.mk hc0_5
 clear hr0_5 hc0_5
 have HB := Aside0.mk (Below.refl w.heap.size w)
 have H : ((tenementlaw15_refStamp.f a0_0 a0_1 a0_2 a0_3 a0_4).bind fun bt291 => ((tenementlaw15_refWrites.f k l0_5).bind fun t296 => (some (bt291.1, bt291.2.1, bt291.2.2.1, bt291.2.2.2.1, bt291.2.2.2.2, t296)))) = some (r1, r2, r3, r4, r5, r6) := h
 clear h
 replace H := Option.bind_eq_some_iff.mp H
 obtain ⟨⟨t291, t292, t293, t294, t295⟩, A20, H⟩ := H
 replace H : ((tenementlaw15_refWrites.f k l0_5).bind fun t296 => (some (t291, t292, t293, t294, t295, t296))) = some (r1, r2, r3, r4, r5, r6) := H
 have A2 := Aside0.mk A20
 clear A20
 replace H := Option.bind_eq_some_iff.mp H
 obtain ⟨t296, A30, H⟩ := H
 replace H : (some (t291, t292, t293, t294, t295, t296)) = some (r1, r2, r3, r4, r5, r6) := H
 have A3 := Aside0.mk A30
 clear A30
 simp only [Option.some.injEq, Prod.mk.injEq] at H
 obtain ⟨rfl, rfl, rfl, rfl, rfl, rfl⟩ := H
 go_enter Try.func18, Try.ntmps18
 try go_wp2_with (first | ((with_reducible refine gate_dst (N := 1) rfl ?_); refine Ka_ 1 #[.int .u64 a0_0, .int .u64 a0_1, .int .u64 a0_2, .int .u64 a0_3, .int .i64 a0_4, .slice A0_5 l0_5.length c0_5] 33 ?_; intro gb289 hg w4 hbox hb; have BK289 := Aside0.mk (hbox); have GW289 := Kw_ HB hg; have GE289 := GW289; replace HB := Ks_ HB hb; clear hb hbox hg) | ((with_reducible refine gate_dst (N := 2) rfl ?_); refine Ka_ 2 #[.int .u64 0, .int .u64 0, .int .u64 0, .int .u64 0, .int .i64 0, .slice none 0 0] 55 ?_; intro gb290 hg w5 hbox hb; have BK290 := Aside0.mk (hbox); have GW290 := Kw_ HB hg; have GE290 := GW290; have NB289_290 := Kl_ BK289 hg; have NB290_289 := Kr_ BK289 hg; replace BK289 := Kb_ BK289 hb; replace HB := Ks_ HB hb; clear hb hbox hg))
 replace BK289 := Kd_ BK289
 replace BK290 := Kd_ BK290
 replace HB := Aside0.mk (below_drew1 HB.out)
 refine start_ (n := 8) (S := fun w' => w'.cell? ⟨gb289, 0, none⟩ = some (.int .u64 a0_0) ∧ w'.cell? ⟨gb289, 1, none⟩ = some (.int .u64 a0_1) ∧ w'.cell? ⟨gb289, 2, none⟩ = some (.int .u64 a0_2) ∧ w'.cell? ⟨gb289, 3, none⟩ = some (.int .u64 a0_3) ∧ w'.cell? ⟨gb289, 4, none⟩ = some (.int .i64 a0_4) ∧ w'.cell? ⟨gb289, 5, none⟩ = some (.slice A0_5 l0_5.length c0_5)) (ds := []) (mB_ 8 0) (by kernel_rfl) rfl rfl (Kc6_ BK289.out) (fun hHeld => ?_); refine with_tabW tenementlaw15_refTxn.tab1 tenementlaw15_refTxn.bits1 (fun HT_ HW_ => ?_)
 generalize w5.drew = w6 at BK289 BK290 HB hHeld ⊢
 refine Kp_ 0 3 (mB_ 8 1) (any_of HT_.out (by kernel_rfl)) ?_
 refine Kp_ 3 6 (mB_ 8 9) (any_of HT_.out (by kernel_rfl)) ?_
 refine Ko_ 1 4 (mB_ 8 11) (take_ofW HT_.out HW_.out (by kernel_rfl)) hHeld ?_
 refine Ko_ 4 7 (mB_ 8 27) (take_ofW HT_.out HW_.out (by kernel_rfl)) hHeld ?_
 refine one_ (i := 2) (N := some 5) (mB_ 8 31) rfl rfl (one_of HT_.out (by kernel_rfl)) (by decide) (fun K hK => ?_)
 refine goes_ Try.func32 (by kernel_rfl) rfl #[.agg #[.int .u64 a0_0, .int .u64 a0_1, .int .u64 a0_2, .int .u64 a0_3, .int .i64 a0_4]] (by rfl) rfl rfl (by (try simp only [List.map_toArray, List.map_cons, List.map_nil]); first | done | rfl | (simp only [List.length_drop, List.length_take]; rfl)) ?_
 with_reducible refine (tenementlaw15_refStamp.calls a0_0 a0_1 a0_2 a0_3 a0_4 t291 t292 t293 t294 t295 _ A2.out).mono ?_
 rintro e w7 ⟨rfl, hb⟩
 refine ⟨_, rfl, ?_⟩
 replace BK289 := Kb_ BK289 hb
 replace BK290 := Kb_ BK290 hb
 replace HB := Ks_ HB hb
 (try clear hb)
 (try clear hb2)
 (try clear hk)
 (try clear hi)
 refine hK.out _ _ (Kc6_ BK289.out) (fun hHeld => ?_)
 clear hK K
 refine Kn_ 5 ?_
 refine one_ (i := 5) (N := some 8) (mB_ 8 63) rfl rfl (one_of HT_.out (by kernel_rfl)) (by decide) (fun K hK => ?_)
 refine goes_ Try.func57 (by kernel_rfl) rfl #[.slice A0_5 l0_5.length c0_5] (by rfl) rfl rfl (by (try simp only [List.map_toArray, List.map_cons, List.map_nil]); first | done | rfl | (simp only [List.length_drop, List.length_take]; rfl)) ?_
 with_reducible refine (tenementlaw15_refWrites.calls k _ _ l0_5 t296 _ ?side1 ?side2 A3.out).mono ?_
 (case side1 => repeat (first | exact (Kd.C_below HR0_5.out HB.out) | (with_reducible refine Kd.C_alloc ?_ _) | (with_reducible refine Kd.C_drewN ?_ _) | (with_reducible refine Kd.C_drew ?_)))
 (case side2 => exact HC0_5.out)
 rintro e w8 ⟨v297, rfl, ho0, hb⟩
 refine ⟨_, rfl, ?_⟩
 have HO298 := Aside0.mk (Kd.R_lower ho0 (below_size (K2a_ HB GE289 GE290)))
 replace BK289 := Kb_ BK289 hb
 replace BK290 := Kb_ BK290 hb
 replace HB := Ks_ HB hb
 (try clear hb)
 (try clear hb2)
 (try clear hk)
 (try clear hi)
 (try clear ho0)
 obtain ⟨Ao9, co9, eo9⟩ := Kd.R_slice HO298.out
 (first | subst eo9 | (injection eo9 with f1_ f2_ f3_; have f4_ := f1_.symm; have f5_ := f3_.symm; clear f1_ f2_ f3_; subst f4_; subst f5_))
 refine hK.out _ _ (Kc6_ BK289.out) (fun hHeld => ?_)
 clear hK K
 refine Kn_ 8 ?_
 refine Kp_ 6 9 (mB_ 8 127) (any_of HT_.out (by kernel_rfl)) ?_
 refine one_ (i := 7) (N := none) (mB_ 8 255) rfl rfl (one_of HT_.out (by kernel_rfl)) (by decide) (fun K hK => ?_)
 have hs10 : w8.cell? ⟨gb290, 0, none⟩ = some (.int .u64 0) := (blk_cell BK290.out 0).trans rfl
 have hfs10 := blk_frozen BK290.out 0
 have hns10_0 := NB289_290.out
 have hms10_0 := NB290_289.out
 have hs11 : w8.cell? ⟨gb290, 1, none⟩ = some (.int .u64 0) := (blk_cell BK290.out 1).trans rfl
 have hfs11 := blk_frozen BK290.out 1
 have hns11_0 := NB289_290.out
 have hms11_0 := NB290_289.out
 have hs12 : w8.cell? ⟨gb290, 2, none⟩ = some (.int .u64 0) := (blk_cell BK290.out 2).trans rfl
 have hfs12 := blk_frozen BK290.out 2
 have hns12_0 := NB289_290.out
 have hms12_0 := NB290_289.out
 have hs13 : w8.cell? ⟨gb290, 3, none⟩ = some (.int .u64 0) := (blk_cell BK290.out 3).trans rfl
 have hfs13 := blk_frozen BK290.out 3
 have hns13_0 := NB289_290.out
 have hms13_0 := NB290_289.out
 have hs14 : w8.cell? ⟨gb290, 4, none⟩ = some (.int .i64 0) := (blk_cell BK290.out 4).trans rfl
 have hfs14 := blk_frozen BK290.out 4
 have hns14_0 := NB289_290.out
 have hms14_0 := NB290_289.out
 have hs15 : w8.cell? ⟨gb290, 5, none⟩ = some (.slice none 0 0) := (blk_cell BK290.out 5).trans rfl
 have hfs15 := blk_frozen BK290.out 5
 have hns15_0 := NB289_290.out
 have hms15_0 := NB290_289.out
 refine skip_ (w1 := ?_) (by rfl) rfl ?_ ?_
 rotate_left
 ·go_simp
  rfl
 refine hK.out _ _ ⟨(Kj_ NB289_290 ((Kj_ NB289_290 ((Kj_ NB289_290 ((Kj_ NB289_290 ((Kj_ NB289_290 ((Kj_ NB289_290 (hHeld.1)))))))))))), (Kj_ NB289_290 ((Kj_ NB289_290 ((Kj_ NB289_290 ((Kj_ NB289_290 ((Kj_ NB289_290 ((Kj_ NB289_290 (hHeld.2.1)))))))))))), (Kj_ NB289_290 ((Kj_ NB289_290 ((Kj_ NB289_290 ((Kj_ NB289_290 ((Kj_ NB289_290 ((Kj_ NB289_290 (hHeld.2.2.1)))))))))))), (Kj_ NB289_290 ((Kj_ NB289_290 ((Kj_ NB289_290 ((Kj_ NB289_290 ((Kj_ NB289_290 ((Kj_ NB289_290 (hHeld.2.2.2.1)))))))))))), (Kj_ NB289_290 ((Kj_ NB289_290 ((Kj_ NB289_290 ((Kj_ NB289_290 ((Kj_ NB289_290 ((Kj_ NB289_290 (hHeld.2.2.2.2.1)))))))))))), (Kj_ NB289_290 ((Kj_ NB289_290 ((Kj_ NB289_290 ((Kj_ NB289_290 ((Kj_ NB289_290 ((Kj_ NB289_290 (hHeld.2.2.2.2.2))))))))))))⟩ (fun hHeld => ?_)
 clear hK K
 refine done_ (done_of HT_.out (by kernel_rfl)) ?_
 try go_wp2
 refine bodyPost_ret (results_cell_row rfl _ _ gb290 55 #[.int .u64 t291, .int .u64 t292, .int .u64 t293, .int .u64 t294, .int .i64 t295, .slice Ao9 t296.length co9] (0, 0) _ rfl (by refine Kv_ ?_; refine blk_put (cs := #[.int .u64 t291, .int .u64 t292, .int .u64 t293, .int .u64 t294, .int .i64 t295, .slice none 0 0]) ?_ 5 _ rfl; refine Kv_ ?_; refine blk_put (cs := #[.int .u64 t291, .int .u64 t292, .int .u64 t293, .int .u64 t294, .int .i64 0, .slice none 0 0]) ?_ 4 _ rfl; refine Kv_ ?_; refine blk_put (cs := #[.int .u64 t291, .int .u64 t292, .int .u64 t293, .int .u64 0, .int .i64 0, .slice none 0 0]) ?_ 3 _ rfl; refine Kv_ ?_; refine blk_put (cs := #[.int .u64 t291, .int .u64 t292, .int .u64 0, .int .u64 0, .int .i64 0, .slice none 0 0]) ?_ 2 _ rfl; refine Kv_ ?_; refine blk_put (cs := #[.int .u64 t291, .int .u64 0, .int .u64 0, .int .u64 0, .int .i64 0, .slice none 0 0]) ?_ 1 _ rfl; refine Kv_ ?_; refine blk_put (cs := #[.int .u64 0, .int .u64 0, .int .u64 0, .int .u64 0, .int .i64 0, .slice none 0 0]) ?_ 0 _ rfl; exact Kq_ BK290) Try.underlying55 rfl (by kernel_rfl)) rfl ?_
 exact ⟨_, by first | rfl | (simp [errW_none, errW_some] <;> rfl) | (simp [*, errW_none, errW_some] <;> rfl), by (with_reducible repeat (first | apply Kd.R_alloc | apply Kd.R_drewN | apply Kd.R_drew)); exact Kd.R_mono (Kd.R_far (p := ⟨gb290, 5, none⟩) (Kd.R_far (p := ⟨gb290, 4, none⟩) (Kd.R_far (p := ⟨gb290, 3, none⟩) (Kd.R_far (p := ⟨gb290, 2, none⟩) (Kd.R_far (p := ⟨gb290, 1, none⟩) (Kd.R_far (p := ⟨gb290, 0, none⟩) (Kd.R_types HO298.out BK290.out (by decide)) (fun _ hk => hk.2) (.int .u64 t291)) (fun _ hk => hk.2) (.int .u64 t292)) (fun _ hk => hk.2) (.int .u64 t293)) (fun _ hk => hk.2) (.int .u64 t294)) (fun _ hk => hk.2) (.int .i64 t295)) (fun _ hk => hk.2) (.slice Ao9 t296.length co9)) (fun _ hk => trivial), K2a_ HB GE289 GE290⟩
theorem w64_0 : wrap64 0 = 0 := by first | rfl | decide | (unfold wrap64; omega)
theorem w64_1 : wrap64 1 = 1 := by first | rfl | decide | (unfold wrap64; omega)
theorem w64_2 : wrap64 2 = 2 := by first | rfl | decide | (unfold wrap64; omega)
theorem w64_3 : wrap64 3 = 3 := by first | rfl | decide | (unfold wrap64; omega)
attribute [local go_sem] w64_0 w64_1 w64_2 w64_3   -- for this text's walks alone
def tenementlaw15_Mark_mark.l0 : Nat → Int → Int → Int → Int → Int → Int → Bool → Int → Int → Int → Int → Int → Option (Int × Int × Int × Int × Int)
 | 0, _, _, _, _, _, _, _, _, _, _, _, _ => none
 | k + 1, x4, x111, x112, x113, x114, x115, x116, x100, x101, x102, x103, x105 => if x4 < 3 then (if x4 = 0 then (tenementlaw15_Mark_mark.l0 k (wrap64 (x4 + 1)) x111 x112 x113 x114 x115 x116 (Int.tmod x111 4) x101 x102 x103 x105) else (if x4 = 1 then (tenementlaw15_Mark_mark.l0 k (wrap64 (x4 + 1)) x111 x112 x113 x114 x115 x116 x100 (Int.tmod x112 4) x102 x103 x105) else (if x4 = 2 then (tenementlaw15_Mark_mark.l0 k (wrap64 (x4 + 1)) x111 x112 x113 x114 x115 x116 x100 x101 (Int.tmod x113 4) x103 x105) else (none)))) else (if x105 = 1 then (some (IntKind.u64.wrap (1 + x100), x101, x102, x103, x105)) else (if x105 = 2 then (some (x100, IntKind.u64.wrap (1 + x101), x102, x103, x105)) else (if x105 = 3 then (some (x100, x101, IntKind.u64.wrap (1 + x102), x103, x105)) else (if x105 = 4 then (some (x100, x101, x102, IntKind.u64.wrap (1 + x103), x105)) else (none)))))
def tenementlaw15_Mark_mark.f (k : Nat) (a0_0 : Int) (a0_1 : Int) (a0_2 : Int) (a0_3 : Int) (a0_4 : Int) (a0_5 : Bool) : Option (Int × Int × Int × Int × Int) := if a0_5 = true then (tenementlaw15_Mark_mark.l0 k 0 a0_0 a0_1 a0_2 a0_3 a0_4 a0_5 0 0 0 0 (wrap64 (1 + (wrap64 (Int.tmod (IntKind.u64.wrap (a0_4)) 3))))) else (some (a0_0, a0_1, a0_2, a0_3, a0_4))
def tenementlaw15_Mark_mark.T8 : Bool × List (List Nat × List Nat) := (true, [([], []), ([0], [0]), ([1], [1]), ([], []), ([3], [3]), ([4], [4]), ([], []), ([6, 5], [5, 6]), ([7], [7]), ([8], [8]), ([], []), ([10, 2, 0, 1, 2, 3, 4, 5, 6, 7, 8, 9], [2, 10]), ([11, 9, 0, 1, 2, 3, 4, 5, 6, 7, 8, 9], [9, 11])])
def tenementlaw15_Mark_mark.B8 : List Nat := [0, 1, 3, 0, 8, 24, 0, 120, 248, 504, 0, 2047, 4095]
theorem tenementlaw15_Mark_mark.tab8 : rtab .any (opsOf Try.f25 8) = tenementlaw15_Mark_mark.T8 := by kernel_rfl
theorem tenementlaw15_Mark_mark.bits8 : waitsOk tenementlaw15_Mark_mark.T8.2 tenementlaw15_Mark_mark.B8 = true := by kernel_rfl
set_option maxHeartbeats 8000000 in
set_option maxRecDepth 100000 in
theorem tenementlaw15_Mark_mark.calls (k : Nat) (a0_0 : Int) (a0_1 : Int) (a0_2 : Int) (a0_3 : Int) (a0_4 : Int) (a0_5 : Bool) (r1 : Int) (r2 : Int) (r3 : Int) (r4 : Int) (r5 : Int) (w : World) (h : tenementlaw15_Mark_mark.f k a0_0 a0_1 a0_2 a0_3 a0_4 a0_5 = some (r1, r2, r3, r4, r5)) :
  Calls Try.prog 25 #[.agg #[.int .u64 a0_0, .int .u64 a0_1, .int .u64 a0_2, .int .u64 a0_3, .int .i64 a0_4, .bool a0_5]] w fun e w' => e = .returned (.agg #[.int .u64 r1, .int .u64 r2, .int .u64 r3, .int .u64 r4, .int .i64 r5]) ∧ Below w.heap.size w w' := by
 have hu39 := Try.underlying39
 have hu30 := Try.underlying30
 have HB := Aside0.mk (Below.refl w.heap.size w)
 have H : (if a0_5 = true then (tenementlaw15_Mark_mark.l0 k 0 a0_0 a0_1 a0_2 a0_3 a0_4 a0_5 0 0 0 0 (wrap64 (1 + (wrap64 (Int.tmod (IntKind.u64.wrap (a0_4)) 3))))) else (some (a0_0, a0_1, a0_2, a0_3, a0_4))) = some (r1, r2, r3, r4, r5) := h
 clear h
 by_cases c2 : a0_5 = true
 rotate_left
 ·replace c2 := Bool.eq_false_iff.mpr c2
  subst c2
  have H1 : (some (a0_0, a0_1, a0_2, a0_3, a0_4)) = some (r1, r2, r3, r4, r5) := by rw [if_neg (show ¬ (false = true) by decide)] at H; exact H
  clear H
  have H := H1
  clear H1
  simp only [Option.some.injEq, Prod.mk.injEq] at H
  obtain ⟨rfl, rfl, rfl, rfl, rfl⟩ := H
  go_enter Try.func25, Try.ntmps25
  go_wp2_with (first | ((with_reducible refine gate_dst (N := 1) rfl ?_); refine Ka_ 1 #[.int .u64 a0_0, .int .u64 a0_1, .int .u64 a0_2, .int .u64 a0_3, .int .i64 a0_4, .bool false] 39 ?_; intro gb299 hg w62 hbox hb; have BK299 := Aside0.mk (hbox); have GW299 := Kw_ HB hg; have GE299 := GW299; replace HB := Ks_ HB hb; clear hb hbox hg) | ((with_reducible refine gate_dst (N := 2) rfl ?_); refine Ka_ 2 #[.int .u64 0, .int .u64 0, .int .u64 0, .int .u64 0, .int .i64 0] 30 ?_; intro gb300 hg w63 hbox hb; have BK300 := Aside0.mk (hbox); have GW300 := Kw_ HB hg; have GE300 := GW300; have NB299_300 := Kl_ BK299 hg; have NB300_299 := Kr_ BK299 hg; replace BK299 := Kb_ BK299 hb; replace HB := Ks_ HB hb; clear hb hbox hg; have hnb64 := NB299_300.out; have hnc64 := NB300_299.out; obtain ⟨hcz65_0, hcz65_1, hcz65_2, hcz65_3, hcz65_4, hcz65_5, hfz65_0, hfz65_1, hfz65_2, hfz65_3, hfz65_4, hfz65_5⟩ := Ke6_ BK299.out; obtain ⟨hcz66_0, hcz66_1, hcz66_2, hcz66_3, hcz66_4, hfz66_0, hfz66_1, hfz66_2, hfz66_3, hfz66_4⟩ := Ke5_ BK300.out))
  refine bodyPost_ret (results_cell_row rfl _ _ gb300 30 #[.int .u64 a0_0, .int .u64 a0_1, .int .u64 a0_2, .int .u64 a0_3, .int .i64 a0_4] (0, 0) _ rfl (by refine Kv_ ?_; refine blk_put (cs := #[.int .u64 a0_0, .int .u64 a0_1, .int .u64 a0_2, .int .u64 a0_3, .int .i64 0]) ?_ 4 _ rfl; refine Kv_ ?_; refine blk_put (cs := #[.int .u64 a0_0, .int .u64 a0_1, .int .u64 a0_2, .int .u64 0, .int .i64 0]) ?_ 3 _ rfl; refine Kv_ ?_; refine blk_put (cs := #[.int .u64 a0_0, .int .u64 a0_1, .int .u64 0, .int .u64 0, .int .i64 0]) ?_ 2 _ rfl; refine Kv_ ?_; refine blk_put (cs := #[.int .u64 a0_0, .int .u64 0, .int .u64 0, .int .u64 0, .int .i64 0]) ?_ 1 _ rfl; refine Kv_ ?_; refine blk_put (cs := #[.int .u64 0, .int .u64 0, .int .u64 0, .int .u64 0, .int .i64 0]) ?_ 0 _ rfl; exact Kq_ BK300) Try.underlying30 rfl (by kernel_rfl)) rfl ?_
  exact ⟨Kh_, K2a_ HB GE299 GE300⟩
 subst c2
 have H1 : (tenementlaw15_Mark_mark.l0 k 0 a0_0 a0_1 a0_2 a0_3 a0_4 true 0 0 0 0 (wrap64 (1 + (wrap64 (Int.tmod (IntKind.u64.wrap (a0_4)) 3))))) = some (r1, r2, r3, r4, r5) := by rw [if_pos rfl] at H; exact H
 clear H
 have H := H1
 clear H1
 have H' := Aside0.mk H
 clear H
 go_enter Try.func25, Try.ntmps25
 go_wp2_with (first | ((with_reducible refine gate_dst (N := 1) rfl ?_); refine Ka_ 1 #[.int .u64 a0_0, .int .u64 a0_1, .int .u64 a0_2, .int .u64 a0_3, .int .i64 a0_4, .bool true] 39 ?_; intro gb299 hg w3 hbox hb; have BK299 := Aside0.mk (hbox); have GW299 := Kw_ HB hg; have GE299 := GW299; replace HB := Ks_ HB hb; clear hb hbox hg) | ((with_reducible refine gate_dst (N := 2) rfl ?_); refine Ka_ 2 #[.int .u64 0, .int .u64 0, .int .u64 0, .int .u64 0, .int .i64 0] 30 ?_; intro gb300 hg w4 hbox hb; have BK300 := Aside0.mk (hbox); have GW300 := Kw_ HB hg; have GE300 := GW300; have NB299_300 := Kl_ BK299 hg; have NB300_299 := Kr_ BK299 hg; replace BK299 := Kb_ BK299 hb; replace HB := Ks_ HB hb; clear hb hbox hg; have hnb5 := NB299_300.out; have hnc5 := NB300_299.out; obtain ⟨hcz6_0, hcz6_1, hcz6_2, hcz6_3, hcz6_4, hcz6_5, hfz6_0, hfz6_1, hfz6_2, hfz6_3, hfz6_4, hfz6_5⟩ := Ke6_ BK299.out) | ((with_reducible refine gate_dst (N := 3) rfl ?_); refine Ka_ 3 #[.int .u64 0, .int .u64 0, .int .u64 0, .int .u64 0, .int .i64 0] 30 ?_; intro gb301 hg w7 hbox hb; have BK301 := Aside0.mk (hbox); have GW301 := Kw_ HB hg; have GE301 := GW301; have NB299_301 := Kl_ BK299 hg; have NB301_299 := Kr_ BK299 hg; have NB300_301 := Kl_ BK300 hg; have NB301_300 := Kr_ BK300 hg; replace BK299 := Kb_ BK299 hb; replace BK300 := Kb_ BK300 hb; replace HB := Ks_ HB hb; clear hb hbox hg; have hnb8 := NB301_299.out; have hnc8 := NB299_301.out; have hnb9 := NB301_300.out; have hnc9 := NB300_301.out; obtain ⟨hcz10_0, hcz10_1, hcz10_2, hcz10_3, hcz10_4, hfz10_0, hfz10_1, hfz10_2, hfz10_3, hfz10_4⟩ := Ke5_ BK301.out))
 go_loopg [4] k (fun kq v4 w' => ∃ (x4_1 : Int) (x100_1 : Int) (x101_1 : Int) (x102_1 : Int) (x103_1 : Int), v4 = .int .i64 x4_1 ∧ Aside0 (tenementlaw15_Mark_mark.l0 kq x4_1 a0_0 a0_1 a0_2 a0_3 a0_4 true x100_1 x101_1 x102_1 x103_1 (wrap64 (1 + (wrap64 (Int.tmod (IntKind.u64.wrap (a0_4)) 3)))) = some (r1, r2, r3, r4, r5)) ∧ Aside0 (kq ≤ k) ∧ Aside0 (w'.heap[gb299]? = some (.cells #[.int .u64 a0_0, .int .u64 a0_1, .int .u64 a0_2, .int .u64 a0_3, .int .i64 a0_4, .bool true] 39 (0, 0))) ∧ Aside0 (w'.heap[gb300]? = some (.cells #[.int .u64 0, .int .u64 0, .int .u64 0, .int .u64 0, .int .i64 0] 30 (0, 0))) ∧ Aside0 (w'.heap[gb301]? = some (.cells #[.int .u64 x100_1, .int .u64 x101_1, .int .u64 x102_1, .int .u64 x103_1, .int .i64 (wrap64 (1 + (wrap64 (Int.tmod (IntKind.u64.wrap (a0_4)) 3))))] 30 (0, 0))) ∧ Aside0 (Below w.heap.size w w'))
 case atStart => exact ⟨(0), (0), (0), (0), (0), (by first | rfl | (simp; done) | (simp [*]; done)), H', ⟨Nat.le_refl _⟩, ⟨by exact K1b_ BK299 NB299_301⟩, ⟨by exact K1b_ BK300 NB300_301⟩, ⟨by refine Kv_ ?_; refine blk_put (cs := #[.int .u64 0, .int .u64 0, .int .u64 0, .int .u64 0, .int .i64 0]) ?_ 4 _ rfl; refine Kv_ ?_; refine blk_put (cs := #[.int .u64 0, .int .u64 0, .int .u64 0, .int .u64 0, .int .i64 0]) ?_ 3 _ rfl; refine Kv_ ?_; refine blk_put (cs := #[.int .u64 0, .int .u64 0, .int .u64 0, .int .u64 0, .int .i64 0]) ?_ 2 _ rfl; refine Kv_ ?_; refine blk_put (cs := #[.int .u64 0, .int .u64 0, .int .u64 0, .int .u64 0, .int .i64 0]) ?_ 1 _ rfl; refine Kv_ ?_; refine blk_put (cs := #[.int .u64 0, .int .u64 0, .int .u64 0, .int .u64 0, .int .i64 0]) ?_ 0 _ rfl; exact Kq_ BK301⟩, ⟨K3a_ HB GE299 GE300 GE301⟩⟩
 case round =>
  clear H'
  try clear c2
  try clear p2
  try clear c5
  try clear p6
  try clear c8
  try clear c9
  try clear hcz10_0
  try clear hcz10_1
  try clear hcz10_2
  try clear hcz10_3
  try clear hcz10_4
  try clear hcz6_0
  try clear hcz6_1
  try clear hcz6_2
  try clear hcz6_3
  try clear hcz6_4
  try clear hcz6_5
  try clear hfz10_0
  try clear hfz10_1
  try clear hfz10_2
  try clear hfz10_3
  try clear hfz10_4
  try clear hfz6_0
  try clear hfz6_1
  try clear hfz6_2
  try clear hfz6_3
  try clear hfz6_4
  try clear hfz6_5
  obtain ⟨x4_1, x100_1, x101_1, x102_1, x103_1, rfl, HA, HK1, BK299, BK300, BK301, HB⟩ := hrel
  cases gk with
  | zero => exact absurd HA.out (by simp [tenementlaw15_Mark_mark.l0])
  | succ k1 =>
   have H := HA.out
   clear HA
   simp only [tenementlaw15_Mark_mark.l0] at H
   by_cases c11 : x4_1 < 3
   ·rw [if_pos c11] at H
    have c11b0 : decide (x4_1 < 3) = true := decide_eq_true c11
    clear c11
    by_cases c12 : x4_1 = 0
    ·subst c12
     have H1 : (tenementlaw15_Mark_mark.l0 k1 1 a0_0 a0_1 a0_2 a0_3 a0_4 true (Int.tmod a0_0 4) x101_1 x102_1 x103_1 (wrap64 (1 + (wrap64 (Int.tmod (IntKind.u64.wrap (a0_4)) 3))))) = some (r1, r2, r3, r4, r5) := by rw [if_pos rfl] at H; (try simp only [show wrap64 ((0 : Int) + 1) = 1 from by first | rfl | decide | (unfold wrap64; omega), show wrap64 ((0 : Int) - 1) = -1 from by first | rfl | decide | (unfold wrap64; omega)] at H); exact H
     clear H
     have H := H1
     clear H1
     have H' := Aside0.mk H
     clear H
     have hnb13 := NB299_300.out
     have hnc13 := NB300_299.out
     have hnb14 := NB299_301.out
     have hnc14 := NB301_299.out
     obtain ⟨hcz15_0, hcz15_1, hcz15_2, hcz15_3, hcz15_4, hcz15_5, hfz15_0, hfz15_1, hfz15_2, hfz15_3, hfz15_4, hfz15_5⟩ := Ke6_ BK299.out
     have hnb16 := NB301_300.out
     have hnc16 := NB300_301.out
     obtain ⟨hcz17_0, hcz17_1, hcz17_2, hcz17_3, hcz17_4, hfz17_0, hfz17_1, hfz17_2, hfz17_3, hfz17_4⟩ := Ke5_ BK301.out
     go_wp2
     go_roundg k1
     case measure => have := HK1.out; omega
     case rel => exact ⟨(1), (Int.tmod a0_0 4), (x101_1), (x102_1), (x103_1), (by first | rfl | (simp; done) | (simp [*]; done)), H', ⟨by have := HK1.out; omega⟩, ⟨by exact K1b_ BK299 NB299_301⟩, ⟨by exact K1b_ BK300 NB300_301⟩, ⟨by refine Kv_ ?_; refine blk_put (cs := #[.int .u64 x100_1, .int .u64 x101_1, .int .u64 x102_1, .int .u64 x103_1, .int .i64 (wrap64 (1 + (wrap64 (Int.tmod (IntKind.u64.wrap (a0_4)) 3))))]) ?_ 0 _ rfl; exact Kq_ BK301⟩, ⟨K3a_ HB GE299 GE300 GE301⟩⟩
    rw [if_neg c12] at H
    by_cases c18 : x4_1 = 1
    ·subst c18
     have H1 : (tenementlaw15_Mark_mark.l0 k1 2 a0_0 a0_1 a0_2 a0_3 a0_4 true x100_1 (Int.tmod a0_1 4) x102_1 x103_1 (wrap64 (1 + (wrap64 (Int.tmod (IntKind.u64.wrap (a0_4)) 3))))) = some (r1, r2, r3, r4, r5) := by rw [if_pos rfl] at H; (try simp only [show wrap64 ((1 : Int) + 1) = 2 from by first | rfl | decide | (unfold wrap64; omega), show wrap64 ((1 : Int) - 1) = 0 from by first | rfl | decide | (unfold wrap64; omega)] at H); exact H
     clear H
     have H := H1
     clear H1
     have H' := Aside0.mk H
     clear H
     have hnb19 := NB299_300.out
     have hnc19 := NB300_299.out
     have hnb20 := NB299_301.out
     have hnc20 := NB301_299.out
     obtain ⟨hcz21_0, hcz21_1, hcz21_2, hcz21_3, hcz21_4, hcz21_5, hfz21_0, hfz21_1, hfz21_2, hfz21_3, hfz21_4, hfz21_5⟩ := Ke6_ BK299.out
     have hnb22 := NB301_300.out
     have hnc22 := NB300_301.out
     obtain ⟨hcz23_0, hcz23_1, hcz23_2, hcz23_3, hcz23_4, hfz23_0, hfz23_1, hfz23_2, hfz23_3, hfz23_4⟩ := Ke5_ BK301.out
     go_wp2
     go_roundg k1
     case measure => have := HK1.out; omega
     case rel => exact ⟨(2), (x100_1), (Int.tmod a0_1 4), (x102_1), (x103_1), (by first | rfl | (simp; done) | (simp [*]; done)), H', ⟨by have := HK1.out; omega⟩, ⟨by exact K1b_ BK299 NB299_301⟩, ⟨by exact K1b_ BK300 NB300_301⟩, ⟨by refine Kv_ ?_; refine blk_put (cs := #[.int .u64 x100_1, .int .u64 x101_1, .int .u64 x102_1, .int .u64 x103_1, .int .i64 (wrap64 (1 + (wrap64 (Int.tmod (IntKind.u64.wrap (a0_4)) 3))))]) ?_ 1 _ rfl; exact Kq_ BK301⟩, ⟨K3a_ HB GE299 GE300 GE301⟩⟩
    rw [if_neg c18] at H
    by_cases c24 : x4_1 = 2
    rotate_left
    ·rw [if_neg c24] at H
     exact absurd H (by simp)
    subst c24
    have H1 : (tenementlaw15_Mark_mark.l0 k1 3 a0_0 a0_1 a0_2 a0_3 a0_4 true x100_1 x101_1 (Int.tmod a0_2 4) x103_1 (wrap64 (1 + (wrap64 (Int.tmod (IntKind.u64.wrap (a0_4)) 3))))) = some (r1, r2, r3, r4, r5) := by rw [if_pos rfl] at H; (try simp only [show wrap64 ((2 : Int) + 1) = 3 from by first | rfl | decide | (unfold wrap64; omega), show wrap64 ((2 : Int) - 1) = 1 from by first | rfl | decide | (unfold wrap64; omega)] at H); exact H
    clear H
    have H := H1
    clear H1
    have H' := Aside0.mk H
    clear H
    have hnb25 := NB299_300.out
    have hnc25 := NB300_299.out
    have hnb26 := NB299_301.out
    have hnc26 := NB301_299.out
    obtain ⟨hcz27_0, hcz27_1, hcz27_2, hcz27_3, hcz27_4, hcz27_5, hfz27_0, hfz27_1, hfz27_2, hfz27_3, hfz27_4, hfz27_5⟩ := Ke6_ BK299.out
    have hnb28 := NB301_300.out
    have hnc28 := NB300_301.out
    obtain ⟨hcz29_0, hcz29_1, hcz29_2, hcz29_3, hcz29_4, hfz29_0, hfz29_1, hfz29_2, hfz29_3, hfz29_4⟩ := Ke5_ BK301.out
    go_wp2
    go_roundg k1
    case measure => have := HK1.out; omega
    case rel => exact ⟨(3), (x100_1), (x101_1), (Int.tmod a0_2 4), (x103_1), (by first | rfl | (simp; done) | (simp [*]; done)), H', ⟨by have := HK1.out; omega⟩, ⟨by exact K1b_ BK299 NB299_301⟩, ⟨by exact K1b_ BK300 NB300_301⟩, ⟨by refine Kv_ ?_; refine blk_put (cs := #[.int .u64 x100_1, .int .u64 x101_1, .int .u64 x102_1, .int .u64 x103_1, .int .i64 (wrap64 (1 + (wrap64 (Int.tmod (IntKind.u64.wrap (a0_4)) 3))))]) ?_ 2 _ rfl; exact Kq_ BK301⟩, ⟨K3a_ HB GE299 GE300 GE301⟩⟩
   rw [if_neg c11] at H
   have c11b0 : decide (x4_1 < 3) = false := decide_eq_false c11
   clear c11
   by_cases c30 : (wrap64 (1 + (wrap64 (Int.tmod (IntKind.u64.wrap (a0_4)) 3)))) = 1
   ·generalize (wrap64 (1 + (wrap64 (Int.tmod (IntKind.u64.wrap (a0_4)) 3)))) = xg_ at *
    subst c30
    have H1 : (some (IntKind.u64.wrap (1 + x100_1), x101_1, x102_1, x103_1, 1)) = some (r1, r2, r3, r4, r5) := by rw [if_pos rfl] at H; (try simp only [show wrap64 ((1 : Int) + 1) = 2 from by first | rfl | decide | (unfold wrap64; omega), show wrap64 ((1 : Int) - 1) = 0 from by first | rfl | decide | (unfold wrap64; omega)] at H); exact H
    clear H
    have H := H1
    clear H1
    simp only [Option.some.injEq, Prod.mk.injEq] at H
    obtain ⟨rfl, rfl, rfl, rfl, rfl⟩ := H
    try go_wp2
    replace BK299 := Kd_ BK299
    replace BK300 := Kd_ BK300
    replace BK301 := Kd_ BK301
    replace HB := Aside0.mk (below_drew1 HB.out)
    refine start_ (n := 13) (S := fun w' => w'.cell? ⟨gb301, 0, none⟩ = some (.int .u64 x100_1) ∧ w'.cell? ⟨gb301, 1, none⟩ = some (.int .u64 x101_1) ∧ w'.cell? ⟨gb301, 2, none⟩ = some (.int .u64 x102_1) ∧ w'.cell? ⟨gb301, 3, none⟩ = some (.int .u64 x103_1) ∧ w'.cell? ⟨gb301, 4, none⟩ = some (.int .i64 1)) (ds := [12]) (mB_ 13 0) (by kernel_rfl) rfl rfl (Kc5_ BK301.out) (fun hHeld => ?_); refine with_tabW tenementlaw15_Mark_mark.tab8 tenementlaw15_Mark_mark.bits8 (fun HT_ HW_ => ?_)
    generalize wr.drew = w31 at BK299 BK300 BK301 HB hHeld ⊢
    refine Kp_ 0 31 (mB_ 13 1) (any_of HT_.out (by kernel_rfl)) ?_
    refine Kp_ 3 34 (mB_ 13 9) (any_of HT_.out (by kernel_rfl)) ?_
    refine Kp_ 6 37 (mB_ 13 73) (any_of HT_.out (by kernel_rfl)) ?_
    refine Kp_ 10 41 (mB_ 13 1097) (any_of HT_.out (by kernel_rfl)) ?_
    refine Ko_ 1 32 (mB_ 13 1099) (take_ofW HT_.out HW_.out (by kernel_rfl)) hHeld ?_
    refine Kp_ 2 33 (mB_ 13 1103) (any_of HT_.out (by kernel_rfl)) ?_
    refine Ko_ 4 35 (mB_ 13 1119) (take_ofW HT_.out HW_.out (by kernel_rfl)) hHeld ?_
    refine Kp_ 5 36 (mB_ 13 1151) (any_of HT_.out (by kernel_rfl)) ?_
    refine Kp_ 7 38 (mB_ 13 1279) (any_of HT_.out (by kernel_rfl)) ?_
    refine Ko_ 8 39 (mB_ 13 1535) (take_ofW HT_.out HW_.out (by kernel_rfl)) hHeld ?_
    refine Kp_ 9 40 (mB_ 13 2047) (any_of HT_.out (by kernel_rfl)) ?_
    refine Kp_ 11 42 (mB_ 13 4095) (any_of HT_.out (by kernel_rfl)) ?_
    refine last_ (i := 12) (N := none) (mB_ 13 8191) rfl rfl (one_of HT_.out (by kernel_rfl)) (by decide) (fun K hK => ?_)
    have hs32 : w31.cell? ⟨gb301, 0, none⟩ = some (.int .u64 x100_1) := (blk_cell BK301.out 0).trans rfl
    have hfs32 := blk_frozen BK301.out 0
    have hns32_0 := NB299_301.out
    have hns32_1 := NB300_301.out
    have hms32_0 := NB301_299.out
    have hms32_1 := NB301_300.out
    refine skip_ (w1 := ?_) (by rfl) rfl ?_ ?_
    rotate_left
    ·go_simp
     rfl
    refine hK.out _ _ ?_
    clear hK K
    refine done_ (done_of HT_.out (by kernel_rfl)) ?_
    have hnb33 := NB301_299.out
    have hnc33 := NB299_301.out
    have hnb34 := NB301_300.out
    have hnc34 := NB300_301.out
    obtain ⟨hcz35_0, hcz35_1, hcz35_2, hcz35_3, hcz35_4, hfz35_0, hfz35_1, hfz35_2, hfz35_3, hfz35_4⟩ := Ke5_ BK301.out
    have hnb36 := NB300_299.out
    have hnc36 := NB299_300.out
    obtain ⟨hcz37_0, hcz37_1, hcz37_2, hcz37_3, hcz37_4, hfz37_0, hfz37_1, hfz37_2, hfz37_3, hfz37_4⟩ := Ke5_ BK300.out
    try go_wp2
    refine bodyPost_ret (results_cell_row rfl _ _ gb300 30 #[.int .u64 (IntKind.u64.wrap (1 + x100_1)), .int .u64 x101_1, .int .u64 x102_1, .int .u64 x103_1, .int .i64 1] (0, 0) _ rfl (by refine Kv_ ?_; refine blk_put (cs := #[.int .u64 (IntKind.u64.wrap (1 + x100_1)), .int .u64 x101_1, .int .u64 x102_1, .int .u64 x103_1, .int .i64 0]) ?_ 4 _ rfl; refine Kv_ ?_; refine blk_put (cs := #[.int .u64 (IntKind.u64.wrap (1 + x100_1)), .int .u64 x101_1, .int .u64 x102_1, .int .u64 0, .int .i64 0]) ?_ 3 _ rfl; refine Kv_ ?_; refine blk_put (cs := #[.int .u64 (IntKind.u64.wrap (1 + x100_1)), .int .u64 x101_1, .int .u64 0, .int .u64 0, .int .i64 0]) ?_ 2 _ rfl; refine Kv_ ?_; refine blk_put (cs := #[.int .u64 (IntKind.u64.wrap (1 + x100_1)), .int .u64 0, .int .u64 0, .int .u64 0, .int .i64 0]) ?_ 1 _ rfl; refine Kv_ ?_; refine blk_put (cs := #[.int .u64 0, .int .u64 0, .int .u64 0, .int .u64 0, .int .i64 0]) ?_ 0 _ rfl; exact K1b_ BK300 NB300_301) Try.underlying30 rfl (by kernel_rfl)) rfl ?_
    exact ⟨Kh_, K3a_ HB GE299 GE300 GE301⟩
   rw [if_neg c30] at H
   by_cases c38 : (wrap64 (1 + (wrap64 (Int.tmod (IntKind.u64.wrap (a0_4)) 3)))) = 2
   ·generalize (wrap64 (1 + (wrap64 (Int.tmod (IntKind.u64.wrap (a0_4)) 3)))) = xg_ at *
    subst c38
    have H1 : (some (x100_1, IntKind.u64.wrap (1 + x101_1), x102_1, x103_1, 2)) = some (r1, r2, r3, r4, r5) := by rw [if_pos rfl] at H; (try simp only [show wrap64 ((2 : Int) + 1) = 3 from by first | rfl | decide | (unfold wrap64; omega), show wrap64 ((2 : Int) - 1) = 1 from by first | rfl | decide | (unfold wrap64; omega)] at H); exact H
    clear H
    have H := H1
    clear H1
    simp only [Option.some.injEq, Prod.mk.injEq] at H
    obtain ⟨rfl, rfl, rfl, rfl, rfl⟩ := H
    try go_wp2
    replace BK299 := Kd_ BK299
    replace BK300 := Kd_ BK300
    replace BK301 := Kd_ BK301
    replace HB := Aside0.mk (below_drew1 HB.out)
    refine start_ (n := 13) (S := fun w' => w'.cell? ⟨gb301, 0, none⟩ = some (.int .u64 x100_1) ∧ w'.cell? ⟨gb301, 1, none⟩ = some (.int .u64 x101_1) ∧ w'.cell? ⟨gb301, 2, none⟩ = some (.int .u64 x102_1) ∧ w'.cell? ⟨gb301, 3, none⟩ = some (.int .u64 x103_1) ∧ w'.cell? ⟨gb301, 4, none⟩ = some (.int .i64 2)) (ds := [12]) (mB_ 13 0) (by kernel_rfl) rfl rfl (Kc5_ BK301.out) (fun hHeld => ?_); refine with_tabW tenementlaw15_Mark_mark.tab8 tenementlaw15_Mark_mark.bits8 (fun HT_ HW_ => ?_)
    generalize wr.drew = w39 at BK299 BK300 BK301 HB hHeld ⊢
    refine Kp_ 0 31 (mB_ 13 1) (any_of HT_.out (by kernel_rfl)) ?_
    refine Kp_ 3 34 (mB_ 13 9) (any_of HT_.out (by kernel_rfl)) ?_
    refine Kp_ 6 37 (mB_ 13 73) (any_of HT_.out (by kernel_rfl)) ?_
    refine Kp_ 10 41 (mB_ 13 1097) (any_of HT_.out (by kernel_rfl)) ?_
    refine Ko_ 1 32 (mB_ 13 1099) (take_ofW HT_.out HW_.out (by kernel_rfl)) hHeld ?_
    refine Kp_ 2 33 (mB_ 13 1103) (any_of HT_.out (by kernel_rfl)) ?_
    refine Ko_ 4 35 (mB_ 13 1119) (take_ofW HT_.out HW_.out (by kernel_rfl)) hHeld ?_
    refine Kp_ 5 36 (mB_ 13 1151) (any_of HT_.out (by kernel_rfl)) ?_
    refine Kp_ 7 38 (mB_ 13 1279) (any_of HT_.out (by kernel_rfl)) ?_
    refine Ko_ 8 39 (mB_ 13 1535) (take_ofW HT_.out HW_.out (by kernel_rfl)) hHeld ?_
    refine Kp_ 9 40 (mB_ 13 2047) (any_of HT_.out (by kernel_rfl)) ?_
    refine Kp_ 11 42 (mB_ 13 4095) (any_of HT_.out (by kernel_rfl)) ?_
    refine last_ (i := 12) (N := none) (mB_ 13 8191) rfl rfl (one_of HT_.out (by kernel_rfl)) (by decide) (fun K hK => ?_)
    have hs40 : w39.cell? ⟨gb301, 1, none⟩ = some (.int .u64 x101_1) := (blk_cell BK301.out 1).trans rfl
    have hfs40 := blk_frozen BK301.out 1
    have hns40_0 := NB299_301.out
    have hns40_1 := NB300_301.out
    have hms40_0 := NB301_299.out
    have hms40_1 := NB301_300.out
    refine skip_ (w1 := ?_) (by rfl) rfl ?_ ?_
    rotate_left
    ·go_simp
     rfl
    refine hK.out _ _ ?_
    clear hK K
    refine done_ (done_of HT_.out (by kernel_rfl)) ?_
    have hnb41 := NB301_299.out
    have hnc41 := NB299_301.out
    have hnb42 := NB301_300.out
    have hnc42 := NB300_301.out
    obtain ⟨hcz43_0, hcz43_1, hcz43_2, hcz43_3, hcz43_4, hfz43_0, hfz43_1, hfz43_2, hfz43_3, hfz43_4⟩ := Ke5_ BK301.out
    have hnb44 := NB300_299.out
    have hnc44 := NB299_300.out
    obtain ⟨hcz45_0, hcz45_1, hcz45_2, hcz45_3, hcz45_4, hfz45_0, hfz45_1, hfz45_2, hfz45_3, hfz45_4⟩ := Ke5_ BK300.out
    try go_wp2
    refine bodyPost_ret (results_cell_row rfl _ _ gb300 30 #[.int .u64 x100_1, .int .u64 (IntKind.u64.wrap (1 + x101_1)), .int .u64 x102_1, .int .u64 x103_1, .int .i64 2] (0, 0) _ rfl (by refine Kv_ ?_; refine blk_put (cs := #[.int .u64 x100_1, .int .u64 (IntKind.u64.wrap (1 + x101_1)), .int .u64 x102_1, .int .u64 x103_1, .int .i64 0]) ?_ 4 _ rfl; refine Kv_ ?_; refine blk_put (cs := #[.int .u64 x100_1, .int .u64 (IntKind.u64.wrap (1 + x101_1)), .int .u64 x102_1, .int .u64 0, .int .i64 0]) ?_ 3 _ rfl; refine Kv_ ?_; refine blk_put (cs := #[.int .u64 x100_1, .int .u64 (IntKind.u64.wrap (1 + x101_1)), .int .u64 0, .int .u64 0, .int .i64 0]) ?_ 2 _ rfl; refine Kv_ ?_; refine blk_put (cs := #[.int .u64 x100_1, .int .u64 0, .int .u64 0, .int .u64 0, .int .i64 0]) ?_ 1 _ rfl; refine Kv_ ?_; refine blk_put (cs := #[.int .u64 0, .int .u64 0, .int .u64 0, .int .u64 0, .int .i64 0]) ?_ 0 _ rfl; exact K1b_ BK300 NB300_301) Try.underlying30 rfl (by kernel_rfl)) rfl ?_
    exact ⟨Kh_, K3a_ HB GE299 GE300 GE301⟩
   rw [if_neg c38] at H
   by_cases c46 : (wrap64 (1 + (wrap64 (Int.tmod (IntKind.u64.wrap (a0_4)) 3)))) = 3
   ·generalize (wrap64 (1 + (wrap64 (Int.tmod (IntKind.u64.wrap (a0_4)) 3)))) = xg_ at *
    subst c46
    have H1 : (some (x100_1, x101_1, IntKind.u64.wrap (1 + x102_1), x103_1, 3)) = some (r1, r2, r3, r4, r5) := by rw [if_pos rfl] at H; (try simp only [show wrap64 ((3 : Int) + 1) = 4 from by first | rfl | decide | (unfold wrap64; omega), show wrap64 ((3 : Int) - 1) = 2 from by first | rfl | decide | (unfold wrap64; omega)] at H); exact H
    clear H
    have H := H1
    clear H1
    simp only [Option.some.injEq, Prod.mk.injEq] at H
    obtain ⟨rfl, rfl, rfl, rfl, rfl⟩ := H
    try go_wp2
    replace BK299 := Kd_ BK299
    replace BK300 := Kd_ BK300
    replace BK301 := Kd_ BK301
    replace HB := Aside0.mk (below_drew1 HB.out)
    refine start_ (n := 13) (S := fun w' => w'.cell? ⟨gb301, 0, none⟩ = some (.int .u64 x100_1) ∧ w'.cell? ⟨gb301, 1, none⟩ = some (.int .u64 x101_1) ∧ w'.cell? ⟨gb301, 2, none⟩ = some (.int .u64 x102_1) ∧ w'.cell? ⟨gb301, 3, none⟩ = some (.int .u64 x103_1) ∧ w'.cell? ⟨gb301, 4, none⟩ = some (.int .i64 3)) (ds := [12]) (mB_ 13 0) (by kernel_rfl) rfl rfl (Kc5_ BK301.out) (fun hHeld => ?_); refine with_tabW tenementlaw15_Mark_mark.tab8 tenementlaw15_Mark_mark.bits8 (fun HT_ HW_ => ?_)
    generalize wr.drew = w47 at BK299 BK300 BK301 HB hHeld ⊢
    refine Kp_ 0 31 (mB_ 13 1) (any_of HT_.out (by kernel_rfl)) ?_
    refine Kp_ 3 34 (mB_ 13 9) (any_of HT_.out (by kernel_rfl)) ?_
    refine Kp_ 6 37 (mB_ 13 73) (any_of HT_.out (by kernel_rfl)) ?_
    refine Kp_ 10 41 (mB_ 13 1097) (any_of HT_.out (by kernel_rfl)) ?_
    refine Ko_ 1 32 (mB_ 13 1099) (take_ofW HT_.out HW_.out (by kernel_rfl)) hHeld ?_
    refine Kp_ 2 33 (mB_ 13 1103) (any_of HT_.out (by kernel_rfl)) ?_
    refine Ko_ 4 35 (mB_ 13 1119) (take_ofW HT_.out HW_.out (by kernel_rfl)) hHeld ?_
    refine Kp_ 5 36 (mB_ 13 1151) (any_of HT_.out (by kernel_rfl)) ?_
    refine Kp_ 7 38 (mB_ 13 1279) (any_of HT_.out (by kernel_rfl)) ?_
    refine Ko_ 8 39 (mB_ 13 1535) (take_ofW HT_.out HW_.out (by kernel_rfl)) hHeld ?_
    refine Kp_ 9 40 (mB_ 13 2047) (any_of HT_.out (by kernel_rfl)) ?_
    refine Kp_ 11 42 (mB_ 13 4095) (any_of HT_.out (by kernel_rfl)) ?_
    refine last_ (i := 12) (N := none) (mB_ 13 8191) rfl rfl (one_of HT_.out (by kernel_rfl)) (by decide) (fun K hK => ?_)
    have hs48 : w47.cell? ⟨gb301, 2, none⟩ = some (.int .u64 x102_1) := (blk_cell BK301.out 2).trans rfl
    have hfs48 := blk_frozen BK301.out 2
    have hns48_0 := NB299_301.out
    have hns48_1 := NB300_301.out
    have hms48_0 := NB301_299.out
    have hms48_1 := NB301_300.out
    refine skip_ (w1 := ?_) (by rfl) rfl ?_ ?_
    rotate_left
    ·go_simp
     rfl
    refine hK.out _ _ ?_
    clear hK K
    refine done_ (done_of HT_.out (by kernel_rfl)) ?_
    have hnb49 := NB301_299.out
    have hnc49 := NB299_301.out
    have hnb50 := NB301_300.out
    have hnc50 := NB300_301.out
    obtain ⟨hcz51_0, hcz51_1, hcz51_2, hcz51_3, hcz51_4, hfz51_0, hfz51_1, hfz51_2, hfz51_3, hfz51_4⟩ := Ke5_ BK301.out
    have hnb52 := NB300_299.out
    have hnc52 := NB299_300.out
    obtain ⟨hcz53_0, hcz53_1, hcz53_2, hcz53_3, hcz53_4, hfz53_0, hfz53_1, hfz53_2, hfz53_3, hfz53_4⟩ := Ke5_ BK300.out
    try go_wp2
    refine bodyPost_ret (results_cell_row rfl _ _ gb300 30 #[.int .u64 x100_1, .int .u64 x101_1, .int .u64 (IntKind.u64.wrap (1 + x102_1)), .int .u64 x103_1, .int .i64 3] (0, 0) _ rfl (by refine Kv_ ?_; refine blk_put (cs := #[.int .u64 x100_1, .int .u64 x101_1, .int .u64 (IntKind.u64.wrap (1 + x102_1)), .int .u64 x103_1, .int .i64 0]) ?_ 4 _ rfl; refine Kv_ ?_; refine blk_put (cs := #[.int .u64 x100_1, .int .u64 x101_1, .int .u64 (IntKind.u64.wrap (1 + x102_1)), .int .u64 0, .int .i64 0]) ?_ 3 _ rfl; refine Kv_ ?_; refine blk_put (cs := #[.int .u64 x100_1, .int .u64 x101_1, .int .u64 0, .int .u64 0, .int .i64 0]) ?_ 2 _ rfl; refine Kv_ ?_; refine blk_put (cs := #[.int .u64 x100_1, .int .u64 0, .int .u64 0, .int .u64 0, .int .i64 0]) ?_ 1 _ rfl; refine Kv_ ?_; refine blk_put (cs := #[.int .u64 0, .int .u64 0, .int .u64 0, .int .u64 0, .int .i64 0]) ?_ 0 _ rfl; exact K1b_ BK300 NB300_301) Try.underlying30 rfl (by kernel_rfl)) rfl ?_
    exact ⟨Kh_, K3a_ HB GE299 GE300 GE301⟩
   rw [if_neg c46] at H
   by_cases c54 : (wrap64 (1 + (wrap64 (Int.tmod (IntKind.u64.wrap (a0_4)) 3)))) = 4
   rotate_left
   ·rw [if_neg c54] at H
    exact absurd H (by simp)
   generalize (wrap64 (1 + (wrap64 (Int.tmod (IntKind.u64.wrap (a0_4)) 3)))) = xg_ at *
   subst c54
   have H1 : (some (x100_1, x101_1, x102_1, IntKind.u64.wrap (1 + x103_1), 4)) = some (r1, r2, r3, r4, r5) := by rw [if_pos rfl] at H; (try simp only [show wrap64 ((4 : Int) + 1) = 5 from by first | rfl | decide | (unfold wrap64; omega), show wrap64 ((4 : Int) - 1) = 3 from by first | rfl | decide | (unfold wrap64; omega)] at H); exact H
   clear H
   have H := H1
   clear H1
   simp only [Option.some.injEq, Prod.mk.injEq] at H
   obtain ⟨rfl, rfl, rfl, rfl, rfl⟩ := H
   try go_wp2
   replace BK299 := Kd_ BK299
   replace BK300 := Kd_ BK300
   replace BK301 := Kd_ BK301
   replace HB := Aside0.mk (below_drew1 HB.out)
   refine start_ (n := 13) (S := fun w' => w'.cell? ⟨gb301, 0, none⟩ = some (.int .u64 x100_1) ∧ w'.cell? ⟨gb301, 1, none⟩ = some (.int .u64 x101_1) ∧ w'.cell? ⟨gb301, 2, none⟩ = some (.int .u64 x102_1) ∧ w'.cell? ⟨gb301, 3, none⟩ = some (.int .u64 x103_1) ∧ w'.cell? ⟨gb301, 4, none⟩ = some (.int .i64 4)) (ds := [12]) (mB_ 13 0) (by kernel_rfl) rfl rfl (Kc5_ BK301.out) (fun hHeld => ?_); refine with_tabW tenementlaw15_Mark_mark.tab8 tenementlaw15_Mark_mark.bits8 (fun HT_ HW_ => ?_)
   generalize wr.drew = w55 at BK299 BK300 BK301 HB hHeld ⊢
   refine Kp_ 0 31 (mB_ 13 1) (any_of HT_.out (by kernel_rfl)) ?_
   refine Kp_ 3 34 (mB_ 13 9) (any_of HT_.out (by kernel_rfl)) ?_
   refine Kp_ 6 37 (mB_ 13 73) (any_of HT_.out (by kernel_rfl)) ?_
   refine Kp_ 10 41 (mB_ 13 1097) (any_of HT_.out (by kernel_rfl)) ?_
   refine Ko_ 1 32 (mB_ 13 1099) (take_ofW HT_.out HW_.out (by kernel_rfl)) hHeld ?_
   refine Kp_ 2 33 (mB_ 13 1103) (any_of HT_.out (by kernel_rfl)) ?_
   refine Ko_ 4 35 (mB_ 13 1119) (take_ofW HT_.out HW_.out (by kernel_rfl)) hHeld ?_
   refine Kp_ 5 36 (mB_ 13 1151) (any_of HT_.out (by kernel_rfl)) ?_
   refine Kp_ 7 38 (mB_ 13 1279) (any_of HT_.out (by kernel_rfl)) ?_
   refine Ko_ 8 39 (mB_ 13 1535) (take_ofW HT_.out HW_.out (by kernel_rfl)) hHeld ?_
   refine Kp_ 9 40 (mB_ 13 2047) (any_of HT_.out (by kernel_rfl)) ?_
   refine Kp_ 11 42 (mB_ 13 4095) (any_of HT_.out (by kernel_rfl)) ?_
   refine last_ (i := 12) (N := none) (mB_ 13 8191) rfl rfl (one_of HT_.out (by kernel_rfl)) (by decide) (fun K hK => ?_)
   have hs56 : w55.cell? ⟨gb301, 3, none⟩ = some (.int .u64 x103_1) := (blk_cell BK301.out 3).trans rfl
   have hfs56 := blk_frozen BK301.out 3
   have hns56_0 := NB299_301.out
   have hns56_1 := NB300_301.out
   have hms56_0 := NB301_299.out
   have hms56_1 := NB301_300.out
   refine skip_ (w1 := ?_) (by rfl) rfl ?_ ?_
   rotate_left
   ·go_simp
    rfl
   refine hK.out _ _ ?_
   clear hK K
   refine done_ (done_of HT_.out (by kernel_rfl)) ?_
   have hnb57 := NB301_299.out
   have hnc57 := NB299_301.out
   have hnb58 := NB301_300.out
   have hnc58 := NB300_301.out
   obtain ⟨hcz59_0, hcz59_1, hcz59_2, hcz59_3, hcz59_4, hfz59_0, hfz59_1, hfz59_2, hfz59_3, hfz59_4⟩ := Ke5_ BK301.out
   have hnb60 := NB300_299.out
   have hnc60 := NB299_300.out
   obtain ⟨hcz61_0, hcz61_1, hcz61_2, hcz61_3, hcz61_4, hfz61_0, hfz61_1, hfz61_2, hfz61_3, hfz61_4⟩ := Ke5_ BK300.out
   try go_wp2
   refine bodyPost_ret (results_cell_row rfl _ _ gb300 30 #[.int .u64 x100_1, .int .u64 x101_1, .int .u64 x102_1, .int .u64 (IntKind.u64.wrap (1 + x103_1)), .int .i64 4] (0, 0) _ rfl (by refine Kv_ ?_; refine blk_put (cs := #[.int .u64 x100_1, .int .u64 x101_1, .int .u64 x102_1, .int .u64 (IntKind.u64.wrap (1 + x103_1)), .int .i64 0]) ?_ 4 _ rfl; refine Kv_ ?_; refine blk_put (cs := #[.int .u64 x100_1, .int .u64 x101_1, .int .u64 x102_1, .int .u64 0, .int .i64 0]) ?_ 3 _ rfl; refine Kv_ ?_; refine blk_put (cs := #[.int .u64 x100_1, .int .u64 x101_1, .int .u64 0, .int .u64 0, .int .i64 0]) ?_ 2 _ rfl; refine Kv_ ?_; refine blk_put (cs := #[.int .u64 x100_1, .int .u64 0, .int .u64 0, .int .u64 0, .int .i64 0]) ?_ 1 _ rfl; refine Kv_ ?_; refine blk_put (cs := #[.int .u64 0, .int .u64 0, .int .u64 0, .int .u64 0, .int .i64 0]) ?_ 0 _ rfl; exact K1b_ BK300 NB300_301) Try.underlying30 rfl (by kernel_rfl)) rfl ?_
   exact ⟨Kh_, K3a_ HB GE299 GE300 GE301⟩
def tenementlaw15_Put_write.f (a0 : ByteArray) (a1 : ByteArray) (a2 : ByteArray) (a3 : Bool) (a4 : Bool) (k : Int) : Option (ByteArray × ByteArray × ByteArray × Bool) := if a4 = true then (if a2.size ≤ 9223372036854775807 then (if 224 ≤ k then some ((strOfNums [98, (IntKind.u8.wrap (48 + Int.tmod k 2))]), (strOfNums [(IntKind.u8.wrap (97 + Int.tmod (IntKind.u8.wrap (Int.tdiv k 2)) 4))]), (⟨#[]⟩ : ByteArray), true) else some ((strOfNums [98, (IntKind.u8.wrap (48 + Int.tmod k 2))]), (strOfNums [(IntKind.u8.wrap (97 + Int.tmod (IntKind.u8.wrap (Int.tdiv k 2)) 4))]), (a2.extract 0 (min a2.size 8)), false)) else none) else some (a0, a1, a2, a3)
def tenementlaw15_Put_write.Sp (gb s0 : Nat) (a2 : ByteArray) (k : Int) : Nat → Value → World → Prop
 | 0, v, _ => v = .pointer (some ⟨gb, 5, none⟩)
 | 1, v, _ => v = .int .u8 k
 | 2, v, _ => v = .int .u8 (Int.tmod k 2)
 | 3, v, _ => v = .int .u8 (IntKind.u8.wrap (48 + Int.tmod k 2))
 | 4, v, W => ∃ b, v = .slice (some ⟨b, 0, none⟩) 2 2 ∧ s0 ≤ b ∧ W.heap[b]? = some (.cells #[.int .u8 98, .int .u8 (IntKind.u8.wrap (48 + Int.tmod k 2))] 5 (0, 0))
 | 5, v, _ => v = .string (strOfNums [98, (IntKind.u8.wrap (48 + Int.tmod k 2))])
 | 6, v, _ => v = .pointer (some ⟨gb, 5, none⟩)
 | 7, v, _ => v = .int .u8 k
 | 8, v, _ => v = .int .u8 (IntKind.u8.wrap (Int.tdiv k 2))
 | 9, v, _ => v = .int .u8 (Int.tmod (IntKind.u8.wrap (Int.tdiv k 2)) 4)
 | 10, v, _ => v = .int .u8 (IntKind.u8.wrap (97 + Int.tmod (IntKind.u8.wrap (Int.tdiv k 2)) 4))
 | 11, v, W => ∃ b, v = .slice (some ⟨b, 0, none⟩) 1 1 ∧ s0 ≤ b ∧ W.heap[b]? = some (.cells #[.int .u8 (IntKind.u8.wrap (97 + Int.tmod (IntKind.u8.wrap (Int.tdiv k 2)) 4))] 5 (0, 0))
 | 12, v, _ => v = .string (strOfNums [(IntKind.u8.wrap (97 + Int.tmod (IntKind.u8.wrap (Int.tdiv k 2)) 4))])
 | 13, v, _ => v = .pointer (some ⟨gb, 0, none⟩)
 | 14, v, _ => v = .pointer (some ⟨gb, 2, none⟩)
 | 15, v, _ => v = .string a2
 | 16, v, _ => v = .pointer (some ⟨gb, 0, none⟩)
 | 17, v, _ => v = .pointer (some ⟨gb, 2, none⟩)
 | 18, v, _ => v = .string a2
 | 19, v, _ => v = .int .i64 (a2.size : Int)
 | 20, v, _ => v = .int .i64 ((min a2.size 8 : Nat) : Int)
 | 21, v, _ => v = .string (a2.extract 0 (min a2.size 8))
 | 22, v, _ => v = .pointer (some ⟨gb, 5, none⟩)
 | 23, v, _ => v = .int .u8 k
 | 24, v, _ => v = .bool (decide (224 ≤ k))
 | 25, v, _ => v = .agg #[.string (strOfNums [98, (IntKind.u8.wrap (48 + Int.tmod k 2))]), .string (strOfNums [(IntKind.u8.wrap (97 + Int.tmod (IntKind.u8.wrap (Int.tdiv k 2)) 4))]), .string (a2.extract 0 (min a2.size 8)), .bool (decide (224 ≤ k))]
 | 26, v, W => ∃ b, v = .pointer (some ⟨b, 0, none⟩) ∧ s0 ≤ b ∧ W.heap[b]? = some (.cells #[.string ⟨#[]⟩, .string ⟨#[]⟩, .string ⟨#[]⟩, .bool false] 107 (0, 0))
 | _, _, _ => True
theorem tenementlaw15_Put_write.stay (gb s0 : Nat) (a2 : ByteArray) (k : Int) : ∀ (i : Nat) (v : Value) (W W' : World), Below W.heap.size W W' → tenementlaw15_Put_write.Sp gb s0 a2 k i v W → tenementlaw15_Put_write.Sp gb s0 a2 k i v W'
 | 0, v, W, W', hb, h => h
 | 1, v, W, W', hb, h => h
 | 2, v, W, W', hb, h => h
 | 3, v, W, W', hb, h => h
 | 4, v, W, W', hb, h => by obtain ⟨b, e, hs, h⟩ := h; exact ⟨b, e, hs, blk_below h hb⟩
 | 5, v, W, W', hb, h => h
 | 6, v, W, W', hb, h => h
 | 7, v, W, W', hb, h => h
 | 8, v, W, W', hb, h => h
 | 9, v, W, W', hb, h => h
 | 10, v, W, W', hb, h => h
 | 11, v, W, W', hb, h => by obtain ⟨b, e, hs, h⟩ := h; exact ⟨b, e, hs, blk_below h hb⟩
 | 12, v, W, W', hb, h => h
 | 13, v, W, W', hb, h => h
 | 14, v, W, W', hb, h => h
 | 15, v, W, W', hb, h => h
 | 16, v, W, W', hb, h => h
 | 17, v, W, W', hb, h => h
 | 18, v, W, W', hb, h => h
 | 19, v, W, W', hb, h => h
 | 20, v, W, W', hb, h => h
 | 21, v, W, W', hb, h => h
 | 22, v, W, W', hb, h => h
 | 23, v, W, W', hb, h => h
 | 24, v, W, W', hb, h => h
 | 25, v, W, W', hb, h => h
 | 26, v, W, W', hb, h => by obtain ⟨b, e, hs, h⟩ := h; exact ⟨b, e, hs, blk_below h hb⟩
 | _ + 27, v, W, W', hb, h => trivial
theorem tenementlaw15_Put_write.boxes2 (w : World) (xs ys : Array Value) (t1 t2 : TypeId) (W : World) (h : (w.alloc (.cells xs t1)).alloc (.cells ys t2) = W) :
  W.heap[w.heap.size]? = some (.cells xs t1 (0,0)) ∧ W.heap[w.heap.size+1]? = some (.cells ys t2 (0,0)) ∧ Below w.heap.size w W := by
 subst h
 have s1 : (w.alloc (.cells xs t1)).heap.size = w.heap.size + 1 := by simp [World.alloc, -World.alloc_eq]
 refine ⟨blk_alloc (blk_new _ _) _, ?_, below_alloc (below_alloc (Below.refl _ _) _) _⟩
 rw [← s1]; exact blk_new _ _
def tenementlaw15_Put_write.St (w : World) (gb s0 : Nat) (cs : Array Value) (W : World) : Prop := W.heap[gb]? = some (.cells cs 159 (0, 0)) ∧ W.heap[gb + 1]? = some (.cells #[.string ⟨#[]⟩, .string ⟨#[]⟩, .string ⟨#[]⟩, .bool false] 107 (0, 0)) ∧ Below w.heap.size w W ∧ s0 ≤ W.heap.size
theorem tenementlaw15_Put_write.st_alloc {w : World} {gb s0 : Nat} {cs : Array Value} {W : World} (h : tenementlaw15_Put_write.St w gb s0 cs W) (o : Obj) : tenementlaw15_Put_write.St w gb s0 cs (W.alloc o) :=
 ⟨blk_alloc h.1 o, blk_alloc h.2.1 o, below_alloc h.2.2.1 o, Nat.le_trans h.2.2.2 (by simp [World.alloc, -World.alloc_eq])⟩
theorem tenementlaw15_Put_write.alloc_below (W : World) (o : Obj) : Below W.heap.size W (W.alloc o) := below_alloc (Below.refl _ _) o
theorem tenementlaw15_Put_write.op_some {P : Program} {ops : Array Oper} {Q : Exit → Act → World → Prop} {i : Nat} {o : Oper} {K : Act → World → Prop} {a : Act} {w : World} (hi : ops[i]? = some o) (hg : o.guard.isNone = true) (h : o.wp P a w K Q) : wpOp P ops Q i K a w := by
 unfold wpOp
 rw [hi]
 simp only [Go.Proofs.Ytoagfdpgnfinhaa.Inv.wanted_none hg, if_true]
 exact .inl h
set_option maxHeartbeats 8000000 in
set_option maxRecDepth 100000 in
theorem tenementlaw15_Put_write.calls (a0 : ByteArray) (a1 : ByteArray) (a2 : ByteArray) (a3 : Bool) (a4 : Bool) (k : Int) (r1 r2 r3 : ByteArray) (r4 : Bool) (w : World) (h : tenementlaw15_Put_write.f a0 a1 a2 a3 a4 k = some (r1, r2, r3, r4)) :
  Calls Try.prog 87 #[.agg #[.string a0, .string a1, .string a2, .bool a3, .bool a4, .int .u8 k]] w fun e w' => e = .returned (.agg #[.string r1, .string r2, .string r3, .bool r4]) ∧ Below w.heap.size w w' := by
 have hu23 := Try.underlying107
 unfold tenementlaw15_Put_write.f at h
 cases a4 with
 | false =>
  rw [if_neg (by simp)] at h
  simp only [Option.some.injEq, Prod.mk.injEq] at h
  obtain ⟨rfl, rfl, rfl, rfl⟩ := h
  go_enter Try.func87, Try.ntmps87
  go_wp2
  obtain ⟨hA, hB, HB1⟩ := tenementlaw15_Put_write.boxes2 w #[.string a0, .string a1, .string a2, .bool a3, .bool false, .int .u8 k] #[.string a0, .string a1, .string a2, .bool a3] 159 107 _ rfl
  generalize ((w.alloc (Obj.cells #[.string a0, .string a1, .string a2, .bool a3, .bool false, .int .u8 k] 159)).alloc (Obj.cells #[.string a0, .string a1, .string a2, .bool a3] 107)) = W0 at *
  obtain ⟨f0, f1, f2, f3⟩ := Kc4_ hB
  exact bodyPost_ret (v := .agg #[.string a0, .string a1, .string a2, .bool a3]) (by simp [results, Try.results87, go_sem, hu23, f0, f1, f2, f3]) rfl ⟨rfl, HB1⟩
 | true =>
  rw [if_pos rfl] at h
  by_cases hz : a2.size ≤ 9223372036854775807
  rotate_left
  ·rw [if_neg hz] at h; cases h
  rw [if_pos hz] at h
  have HH := Aside0.mk h
  clear h
  go_enter Try.func87, Try.ntmps87
  go_wp2
  obtain ⟨hA, hB, HB1⟩ := tenementlaw15_Put_write.boxes2 w #[.string a0, .string a1, .string a2, .bool a3, .bool true, .int .u8 k] #[.string ⟨#[]⟩, .string ⟨#[]⟩, .string ⟨#[]⟩, .bool false] 159 107 _ rfl
  generalize ((w.alloc (Obj.cells #[.string a0, .string a1, .string a2, .bool a3, .bool true, .int .u8 k] 159)).alloc (Obj.cells #[.string ⟨#[]⟩, .string ⟨#[]⟩, .string ⟨#[]⟩, .bool false] 107)) = W0 at *
  have HB := Aside0.mk HB1
  have hlt : w.heap.size + 1 < W0.heap.size := blk_lt hB
  have hst : tenementlaw15_Put_write.St w w.heap.size W0.heap.size #[.string a0, .string a1, .string a2, .bool a3, .bool true, .int .u8 k] W0.drew := ⟨hA, hB, below_drew1 HB1, Nat.le_refl _⟩
  clear hA hB HB1
  have hmm : (if 8 < (a2.size : Int) then 8 else (a2.size : Int)) = ((min a2.size 8 : Nat) : Int) := by split <;> omega
  have m0 : (0 : Int) ≤ ((min a2.size 8 : Nat) : Int) := by omega
  have m1 : ((min a2.size 8 : Nat) : Int) ≤ (a2.size : Int) := by omega
  obtain ⟨gb, hgb⟩ : ∃ gb, gb = w.heap.size := ⟨_, rfl⟩
  obtain ⟨s0, hs0⟩ : ∃ s0, s0 = W0.heap.size := ⟨_, rfl⟩
  rw [← hgb, ← hs0] at hst
  rw [← hgb]
  refine Go.Proofs.Ytoagfdpgnfinhaa.Inv.region_ok (by kernel_rfl) 27 [9, 10, 11, 12, 13, 14, 15, 16, 17, 18, 19, 20, 21, 22, 23, 24, 25, 26, 27, 28, 29, 30, 31, 32, 33, 34, 3] (by kernel_rfl) (fun N hN => (show N < 39 from (by decide : ∀ N ∈ ([9, 10, 11, 12, 13, 14, 15, 16, 17, 18, 19, 20, 21, 22, 23, 24, 25, 26, 27, 28, 29, 30, 31, 32, 33, 34, 3] : List Nat), N < 39) N hN)) (tenementlaw15_Put_write.Sp gb s0 a2 k) (tenementlaw15_Put_write.St w gb s0 #[.string a0, .string a1, .string a2, .bool a3, .bool true, .int .u8 k]) hst (fun i v W W' _ hb h => tenementlaw15_Put_write.stay gb s0 a2 k i v W W' hb h) ?hstep ?hend
  case hstep =>
   clear HH
   intro i o hi ho a W hS hL hd
   have q1 : a.tmps.getD 1 undef = .pointer (some ⟨gb, 0, none⟩) := hL.2.2 1 (by decide)
   obtain ⟨c0, c1, c2, c3, c4, c5, z0, z1, z2, z3, z4, z5⟩ := Ke6_ hS.1
   clear hL hgb hs0 hlt hst
   match i, hi, ho, hd with
   | 0, _, ho, hd =>
    obtain rfl := Option.some.inj ho
    clear hd ho
    refine ⟨.pointer (some ⟨gb, 5, none⟩), W, ?_, hS, Below.refl _ _, rfl⟩
    first | (go_simp; done) | (simp only [execOp, Act.eval, q1]; go_simp; done) | (simp only [execOp, Act.eval, q1]; go_simp; rfl) 
   | 1, _, ho, hd =>
    obtain rfl := Option.some.inj ho
    have d0 : a.tmps.getD 9 undef = .pointer (some ⟨gb, 5, none⟩) := hd ⟨0, .data⟩ (by simp) rfl
    clear hd ho
    refine ⟨.int .u8 k, W, ?_, hS, Below.refl _ _, rfl⟩
    first | (go_simp; done) | (simp only [execOp, Act.eval, q1, d0]; go_simp; done) | (simp only [execOp, Act.eval, q1, d0]; go_simp; rfl) 
   | 2, _, ho, hd =>
    obtain rfl := Option.some.inj ho
    have d1 : a.tmps.getD 10 undef = .int .u8 k := hd ⟨1, .data⟩ (by simp) rfl
    clear hd ho
    refine ⟨.int .u8 (Int.tmod k 2), W, ?_, hS, Below.refl _ _, rfl⟩
    first | (go_simp; done) | (simp only [execOp, Act.eval, q1, d1]; go_simp; done) | (simp only [execOp, Act.eval, q1, d1]; go_simp; rfl) 
   | 3, _, ho, hd =>
    obtain rfl := Option.some.inj ho
    have d2 : a.tmps.getD 11 undef = .int .u8 (Int.tmod k 2) := hd ⟨2, .data⟩ (by simp) rfl
    clear hd ho
    refine ⟨.int .u8 (IntKind.u8.wrap (48 + Int.tmod k 2)), W, ?_, hS, Below.refl _ _, rfl⟩
    first | (go_simp; done) | (simp only [execOp, Act.eval, q1, d2]; go_simp; done) | (simp only [execOp, Act.eval, q1, d2]; go_simp; rfl) 
   | 4, _, ho, hd =>
    obtain rfl := Option.some.inj ho
    have d3 : a.tmps.getD 12 undef = .int .u8 (IntKind.u8.wrap (48 + Int.tmod k 2)) := hd ⟨3, .data⟩ (by simp) rfl
    clear hd ho
    refine ⟨.slice (some ⟨W.heap.size, 0, none⟩) 2 2, W.alloc (.cells #[.int .u8 98, .int .u8 (IntKind.u8.wrap (48 + Int.tmod k 2))] 5), ?_, tenementlaw15_Put_write.st_alloc hS _, tenementlaw15_Put_write.alloc_below W _, ⟨_, rfl, hS.2.2.2, blk_new _ _⟩⟩
    have g3 := (Array.getD_eq_getD_getElem? (xs := a.tmps) (i := 12) (d := undef)).symm.trans d3
    go_simp
   | 5, _, ho, hd =>
    obtain rfl := Option.some.inj ho
    obtain ⟨b, d4, hsb, hbk⟩ : tenementlaw15_Put_write.Sp gb s0 a2 k 4 (a.tmps.getD 13 undef) W := hd ⟨4, .data⟩ (by simp) rfl
    clear hd ho
    refine ⟨.string (strOfNums [98, (IntKind.u8.wrap (48 + Int.tmod k 2))]), W, ?_, hS, Below.refl _ _, rfl⟩
    have hcv := run_convert_bytes_arg (P := Try.prog) W 91 5 Try.underlying91 Try.underlying5 b 0 2 2 [98, (IntKind.u8.wrap (48 + Int.tmod k 2))] rfl (fun j hj => by
     have hj2 : j = 0 ∨ j = 1 := by omega
     rcases hj2 with rfl | rfl
     ·exact (blk_cell hbk 0).trans rfl
     ·exact (blk_cell hbk 1).trans rfl) 9 Try.underlying9
    first | (go_simp; done) | (simp only [execOp, Act.eval, q1, d4]; go_simp; done) | (simp only [execOp, Act.eval, q1, d4]; go_simp; rfl) 
   | 6, _, ho, hd =>
    obtain rfl := Option.some.inj ho
    clear hd ho
    refine ⟨.pointer (some ⟨gb, 5, none⟩), W, ?_, hS, Below.refl _ _, rfl⟩
    first | (go_simp; done) | (simp only [execOp, Act.eval, q1]; go_simp; done) | (simp only [execOp, Act.eval, q1]; go_simp; rfl) 
   | 7, _, ho, hd =>
    obtain rfl := Option.some.inj ho
    have d6 : a.tmps.getD 15 undef = .pointer (some ⟨gb, 5, none⟩) := hd ⟨6, .data⟩ (by simp) rfl
    clear hd ho
    refine ⟨.int .u8 k, W, ?_, hS, Below.refl _ _, rfl⟩
    first | (go_simp; done) | (simp only [execOp, Act.eval, q1, d6]; go_simp; done) | (simp only [execOp, Act.eval, q1, d6]; go_simp; rfl) 
   | 8, _, ho, hd =>
    obtain rfl := Option.some.inj ho
    have d7 : a.tmps.getD 16 undef = .int .u8 k := hd ⟨7, .data⟩ (by simp) rfl
    clear hd ho
    refine ⟨.int .u8 (IntKind.u8.wrap (Int.tdiv k 2)), W, ?_, hS, Below.refl _ _, rfl⟩
    first | (go_simp; done) | (simp only [execOp, Act.eval, q1, d7]; go_simp; done) | (simp only [execOp, Act.eval, q1, d7]; go_simp; rfl) 
   | 9, _, ho, hd =>
    obtain rfl := Option.some.inj ho
    have d8 : a.tmps.getD 17 undef = .int .u8 (IntKind.u8.wrap (Int.tdiv k 2)) := hd ⟨8, .data⟩ (by simp) rfl
    clear hd ho
    refine ⟨.int .u8 (Int.tmod (IntKind.u8.wrap (Int.tdiv k 2)) 4), W, ?_, hS, Below.refl _ _, rfl⟩
    first | (go_simp; done) | (simp only [execOp, Act.eval, q1, d8]; go_simp; done) | (simp only [execOp, Act.eval, q1, d8]; go_simp; rfl) 
   | 10, _, ho, hd =>
    obtain rfl := Option.some.inj ho
    have d9 : a.tmps.getD 18 undef = .int .u8 (Int.tmod (IntKind.u8.wrap (Int.tdiv k 2)) 4) := hd ⟨9, .data⟩ (by simp) rfl
    clear hd ho
    refine ⟨.int .u8 (IntKind.u8.wrap (97 + Int.tmod (IntKind.u8.wrap (Int.tdiv k 2)) 4)), W, ?_, hS, Below.refl _ _, rfl⟩
    first | (go_simp; done) | (simp only [execOp, Act.eval, q1, d9]; go_simp; done) | (simp only [execOp, Act.eval, q1, d9]; go_simp; rfl) 
   | 11, _, ho, hd =>
    obtain rfl := Option.some.inj ho
    have d10 : a.tmps.getD 19 undef = .int .u8 (IntKind.u8.wrap (97 + Int.tmod (IntKind.u8.wrap (Int.tdiv k 2)) 4)) := hd ⟨10, .data⟩ (by simp) rfl
    clear hd ho
    refine ⟨.slice (some ⟨W.heap.size, 0, none⟩) 1 1, W.alloc (.cells #[.int .u8 (IntKind.u8.wrap (97 + Int.tmod (IntKind.u8.wrap (Int.tdiv k 2)) 4))] 5), ?_, tenementlaw15_Put_write.st_alloc hS _, tenementlaw15_Put_write.alloc_below W _, ⟨_, rfl, hS.2.2.2, blk_new _ _⟩⟩
    have g10 := (Array.getD_eq_getD_getElem? (xs := a.tmps) (i := 19) (d := undef)).symm.trans d10
    go_simp
   | 12, _, ho, hd =>
    obtain rfl := Option.some.inj ho
    obtain ⟨b, d11, hsb, hbk⟩ : tenementlaw15_Put_write.Sp gb s0 a2 k 11 (a.tmps.getD 20 undef) W := hd ⟨11, .data⟩ (by simp) rfl
    clear hd ho
    refine ⟨.string (strOfNums [(IntKind.u8.wrap (97 + Int.tmod (IntKind.u8.wrap (Int.tdiv k 2)) 4))]), W, ?_, hS, Below.refl _ _, rfl⟩
    have hcv := run_convert_bytes_arg (P := Try.prog) W 91 5 Try.underlying91 Try.underlying5 b 0 1 1 [(IntKind.u8.wrap (97 + Int.tmod (IntKind.u8.wrap (Int.tdiv k 2)) 4))] rfl (fun j hj => by
     have hj2 : j = 0 := by omega
     rcases hj2 with rfl
     exact (blk_cell hbk 0).trans rfl) 9 Try.underlying9
    first | (go_simp; done) | (simp only [execOp, Act.eval, q1, d11]; go_simp; done) | (simp only [execOp, Act.eval, q1, d11]; go_simp; rfl) 
   | 13, _, ho, hd =>
    obtain rfl := Option.some.inj ho
    clear hd ho
    refine ⟨.pointer (some ⟨gb, 0, none⟩), W, ?_, hS, Below.refl _ _, rfl⟩
    first | (go_simp; done) | (simp only [execOp, Act.eval, q1]; go_simp; done) | (simp only [execOp, Act.eval, q1]; go_simp; rfl) 
   | 14, _, ho, hd =>
    obtain rfl := Option.some.inj ho
    have d13 : a.tmps.getD 22 undef = .pointer (some ⟨gb, 0, none⟩) := hd ⟨13, .data⟩ (by simp) rfl
    clear hd ho
    refine ⟨.pointer (some ⟨gb, 2, none⟩), W, ?_, hS, Below.refl _ _, rfl⟩
    first | (go_simp; done) | (simp only [execOp, Act.eval, q1, d13]; go_simp; done) | (simp only [execOp, Act.eval, q1, d13]; go_simp; rfl) 
   | 15, _, ho, hd =>
    obtain rfl := Option.some.inj ho
    have d14 : a.tmps.getD 23 undef = .pointer (some ⟨gb, 2, none⟩) := hd ⟨14, .data⟩ (by simp) rfl
    clear hd ho
    refine ⟨.string a2, W, ?_, hS, Below.refl _ _, rfl⟩
    first | (go_simp; done) | (simp only [execOp, Act.eval, q1, d14]; go_simp; done) | (simp only [execOp, Act.eval, q1, d14]; go_simp; rfl) 
   | 16, _, ho, hd =>
    obtain rfl := Option.some.inj ho
    clear hd ho
    refine ⟨.pointer (some ⟨gb, 0, none⟩), W, ?_, hS, Below.refl _ _, rfl⟩
    first | (go_simp; done) | (simp only [execOp, Act.eval, q1]; go_simp; done) | (simp only [execOp, Act.eval, q1]; go_simp; rfl) 
   | 17, _, ho, hd =>
    obtain rfl := Option.some.inj ho
    have d16 : a.tmps.getD 25 undef = .pointer (some ⟨gb, 0, none⟩) := hd ⟨16, .data⟩ (by simp) rfl
    clear hd ho
    refine ⟨.pointer (some ⟨gb, 2, none⟩), W, ?_, hS, Below.refl _ _, rfl⟩
    first | (go_simp; done) | (simp only [execOp, Act.eval, q1, d16]; go_simp; done) | (simp only [execOp, Act.eval, q1, d16]; go_simp; rfl) 
   | 18, _, ho, hd =>
    obtain rfl := Option.some.inj ho
    have d17 : a.tmps.getD 26 undef = .pointer (some ⟨gb, 2, none⟩) := hd ⟨17, .data⟩ (by simp) rfl
    clear hd ho
    refine ⟨.string a2, W, ?_, hS, Below.refl _ _, rfl⟩
    first | (go_simp; done) | (simp only [execOp, Act.eval, q1, d17]; go_simp; done) | (simp only [execOp, Act.eval, q1, d17]; go_simp; rfl) 
   | 19, _, ho, hd =>
    obtain rfl := Option.some.inj ho
    have d18 : a.tmps.getD 27 undef = .string a2 := hd ⟨18, .data⟩ (by simp) rfl
    clear hd ho
    refine ⟨.int .i64 (a2.size : Int), W, ?_, hS, Below.refl _ _, rfl⟩
    first | (go_simp; done) | (simp only [execOp, Act.eval, q1, d18]; go_simp; done) | (simp only [execOp, Act.eval, q1, d18]; go_simp; rfl) 
   | 20, _, ho, hd =>
    obtain rfl := Option.some.inj ho
    have d19 : a.tmps.getD 28 undef = .int .i64 (a2.size : Int) := hd ⟨19, .data⟩ (by simp) rfl
    clear hd ho
    refine ⟨.int .i64 ((min a2.size 8 : Nat) : Int), W, ?_, hS, Below.refl _ _, rfl⟩
    first | (go_simp; done) | (simp only [execOp, Act.eval, q1, d19]; go_simp; done) | (simp only [execOp, Act.eval, q1, d19]; go_simp; rfl) 
   | 21, _, ho, hd =>
    obtain rfl := Option.some.inj ho
    have d15 : a.tmps.getD 24 undef = .string a2 := hd ⟨15, .data⟩ (by simp) rfl
    have d20 : a.tmps.getD 29 undef = .int .i64 ((min a2.size 8 : Nat) : Int) := hd ⟨20, .data⟩ (by simp) rfl
    clear hd ho
    refine ⟨.string (a2.extract 0 (min a2.size 8)), W, ?_, hS, Below.refl _ _, rfl⟩
    first | (go_simp; done) | (simp only [execOp, Act.eval, q1, d15, d20]; go_simp; done) | (simp only [execOp, Act.eval, q1, d15, d20]; go_simp; rfl) 
   | 22, _, ho, hd =>
    obtain rfl := Option.some.inj ho
    clear hd ho
    refine ⟨.pointer (some ⟨gb, 5, none⟩), W, ?_, hS, Below.refl _ _, rfl⟩
    first | (go_simp; done) | (simp only [execOp, Act.eval, q1]; go_simp; done) | (simp only [execOp, Act.eval, q1]; go_simp; rfl) 
   | 23, _, ho, hd =>
    obtain rfl := Option.some.inj ho
    have d22 : a.tmps.getD 31 undef = .pointer (some ⟨gb, 5, none⟩) := hd ⟨22, .data⟩ (by simp) rfl
    clear hd ho
    refine ⟨.int .u8 k, W, ?_, hS, Below.refl _ _, rfl⟩
    first | (go_simp; done) | (simp only [execOp, Act.eval, q1, d22]; go_simp; done) | (simp only [execOp, Act.eval, q1, d22]; go_simp; rfl) 
   | 24, _, ho, hd =>
    obtain rfl := Option.some.inj ho
    have d23 : a.tmps.getD 32 undef = .int .u8 k := hd ⟨23, .data⟩ (by simp) rfl
    clear hd ho
    refine ⟨.bool (decide (224 ≤ k)), W, ?_, hS, Below.refl _ _, rfl⟩
    first | (go_simp; done) | (simp only [execOp, Act.eval, q1, d23]; go_simp; done) | (simp only [execOp, Act.eval, q1, d23]; go_simp; rfl) 
   | 25, _, ho, hd =>
    obtain rfl := Option.some.inj ho
    have d5 : a.tmps.getD 14 undef = .string (strOfNums [98, (IntKind.u8.wrap (48 + Int.tmod k 2))]) := hd ⟨5, .data⟩ (by simp) rfl
    have d12 : a.tmps.getD 21 undef = .string (strOfNums [(IntKind.u8.wrap (97 + Int.tmod (IntKind.u8.wrap (Int.tdiv k 2)) 4))]) := hd ⟨12, .data⟩ (by simp) rfl
    have d21 : a.tmps.getD 30 undef = .string (a2.extract 0 (min a2.size 8)) := hd ⟨21, .data⟩ (by simp) rfl
    have d24 : a.tmps.getD 33 undef = .bool (decide (224 ≤ k)) := hd ⟨24, .data⟩ (by simp) rfl
    clear hd ho
    refine ⟨.agg #[.string (strOfNums [98, (IntKind.u8.wrap (48 + Int.tmod k 2))]), .string (strOfNums [(IntKind.u8.wrap (97 + Int.tmod (IntKind.u8.wrap (Int.tdiv k 2)) 4))]), .string (a2.extract 0 (min a2.size 8)), .bool (decide (224 ≤ k))], W, ?_, hS, Below.refl _ _, rfl⟩
    have g5 := (Array.getD_eq_getD_getElem? (xs := a.tmps) (i := 14) (d := undef)).symm.trans d5
    have g12 := (Array.getD_eq_getD_getElem? (xs := a.tmps) (i := 21) (d := undef)).symm.trans d12
    have g21 := (Array.getD_eq_getD_getElem? (xs := a.tmps) (i := 30) (d := undef)).symm.trans d21
    have g24 := (Array.getD_eq_getD_getElem? (xs := a.tmps) (i := 33) (d := undef)).symm.trans d24
    go_simp
   | 26, _, ho, hd =>
    obtain rfl := Option.some.inj ho
    clear hd ho
    refine ⟨.pointer (some ⟨W.heap.size, 0, none⟩), W.alloc (.cells #[.string ⟨#[]⟩, .string ⟨#[]⟩, .string ⟨#[]⟩, .bool false] 107), ?_, tenementlaw15_Put_write.st_alloc hS _, tenementlaw15_Put_write.alloc_below W _, ⟨_, rfl, hS.2.2.2, blk_new _ _⟩⟩
    first | (go_simp; done) | (simp only [execOp, Act.eval, q1]; go_simp; done) | (simp only [execOp, Act.eval, q1]; go_simp; rfl) 
   | _ + 27, hi, _, _ => omega
  case hend =>
   intro a W hS hL hA
   have q0 : a.tmps.getD 0 undef = .agg #[.string a0, .string a1, .string a2, .bool a3, .bool true, .int .u8 k] := hL.2.2 0 (by decide)
   have q1 : a.tmps.getD 1 undef = .pointer (some ⟨gb, 0, none⟩) := hL.2.2 1 (by decide)
   have q2 : a.tmps.getD 2 undef = .pointer (some ⟨gb + 1, 0, none⟩) := hL.2.2 2 (by decide)
   have q4 : a.tmps.getD 4 undef = .pointer (some ⟨gb, 4, none⟩) := hL.2.2 4 (by decide)
   have q5 : a.tmps.getD 5 undef = .bool true := hL.2.2 5 (by decide)
   have q6 : a.tmps.getD 6 undef = .bool false := hL.2.2 6 (by decide)
   have q7 : a.tmps.getD 7 undef = undef := hL.2.2 7 (by decide)
   have q8 : a.tmps.getD 8 undef = undef := hL.2.2 8 (by decide)
   have q35 : a.tmps.getD 35 undef = undef := hL.2.2 35 (by decide)
   have q36 : a.tmps.getD 36 undef = undef := hL.2.2 36 (by decide)
   have q37 : a.tmps.getD 37 undef = undef := hL.2.2 37 (by decide)
   have q38 : a.tmps.getD 38 undef = undef := hL.2.2 38 (by decide)
   have q9 : a.tmps.getD 9 undef = .pointer (some ⟨gb, 5, none⟩) := hA 0 (by decide)
   have q10 : a.tmps.getD 10 undef = .int .u8 k := hA 1 (by decide)
   have q11 : a.tmps.getD 11 undef = .int .u8 (Int.tmod k 2) := hA 2 (by decide)
   have q12 : a.tmps.getD 12 undef = .int .u8 (IntKind.u8.wrap (48 + Int.tmod k 2)) := hA 3 (by decide)
   obtain ⟨b13, q13, s13, k13⟩ : tenementlaw15_Put_write.Sp gb s0 a2 k 4 (a.tmps.getD 13 undef) W := hA 4 (by decide)
   have q14 : a.tmps.getD 14 undef = .string (strOfNums [98, (IntKind.u8.wrap (48 + Int.tmod k 2))]) := hA 5 (by decide)
   have q15 : a.tmps.getD 15 undef = .pointer (some ⟨gb, 5, none⟩) := hA 6 (by decide)
   have q16 : a.tmps.getD 16 undef = .int .u8 k := hA 7 (by decide)
   have q17 : a.tmps.getD 17 undef = .int .u8 (IntKind.u8.wrap (Int.tdiv k 2)) := hA 8 (by decide)
   have q18 : a.tmps.getD 18 undef = .int .u8 (Int.tmod (IntKind.u8.wrap (Int.tdiv k 2)) 4) := hA 9 (by decide)
   have q19 : a.tmps.getD 19 undef = .int .u8 (IntKind.u8.wrap (97 + Int.tmod (IntKind.u8.wrap (Int.tdiv k 2)) 4)) := hA 10 (by decide)
   obtain ⟨b20, q20, s20, k20⟩ : tenementlaw15_Put_write.Sp gb s0 a2 k 11 (a.tmps.getD 20 undef) W := hA 11 (by decide)
   have q21 : a.tmps.getD 21 undef = .string (strOfNums [(IntKind.u8.wrap (97 + Int.tmod (IntKind.u8.wrap (Int.tdiv k 2)) 4))]) := hA 12 (by decide)
   have q22 : a.tmps.getD 22 undef = .pointer (some ⟨gb, 0, none⟩) := hA 13 (by decide)
   have q23 : a.tmps.getD 23 undef = .pointer (some ⟨gb, 2, none⟩) := hA 14 (by decide)
   have q24 : a.tmps.getD 24 undef = .string a2 := hA 15 (by decide)
   have q25 : a.tmps.getD 25 undef = .pointer (some ⟨gb, 0, none⟩) := hA 16 (by decide)
   have q26 : a.tmps.getD 26 undef = .pointer (some ⟨gb, 2, none⟩) := hA 17 (by decide)
   have q27 : a.tmps.getD 27 undef = .string a2 := hA 18 (by decide)
   have q28 : a.tmps.getD 28 undef = .int .i64 (a2.size : Int) := hA 19 (by decide)
   have q29 : a.tmps.getD 29 undef = .int .i64 ((min a2.size 8 : Nat) : Int) := hA 20 (by decide)
   have q30 : a.tmps.getD 30 undef = .string (a2.extract 0 (min a2.size 8)) := hA 21 (by decide)
   have q31 : a.tmps.getD 31 undef = .pointer (some ⟨gb, 5, none⟩) := hA 22 (by decide)
   have q32 : a.tmps.getD 32 undef = .int .u8 k := hA 23 (by decide)
   have q33 : a.tmps.getD 33 undef = .bool (decide (224 ≤ k)) := hA 24 (by decide)
   have q34 : a.tmps.getD 34 undef = .agg #[.string (strOfNums [98, (IntKind.u8.wrap (48 + Int.tmod k 2))]), .string (strOfNums [(IntKind.u8.wrap (97 + Int.tmod (IntKind.u8.wrap (Int.tdiv k 2)) 4))]), .string (a2.extract 0 (min a2.size 8)), .bool (decide (224 ≤ k))] := hA 25 (by decide)
   obtain ⟨b3, q3, s3, k3⟩ : tenementlaw15_Put_write.Sp gb s0 a2 k 26 (a.tmps.getD 3 undef) W := hA 26 (by decide)
   have ht : a.tmps = #[.agg #[.string a0, .string a1, .string a2, .bool a3, .bool true, .int .u8 k], .pointer (some ⟨gb, 0, none⟩), .pointer (some ⟨gb + 1, 0, none⟩), .pointer (some ⟨b3, 0, none⟩), .pointer (some ⟨gb, 4, none⟩), .bool true, .bool false, undef, undef, .pointer (some ⟨gb, 5, none⟩), .int .u8 k, .int .u8 (Int.tmod k 2), .int .u8 (IntKind.u8.wrap (48 + Int.tmod k 2)), .slice (some ⟨b13, 0, none⟩) 2 2, .string (strOfNums [98, (IntKind.u8.wrap (48 + Int.tmod k 2))]), .pointer (some ⟨gb, 5, none⟩), .int .u8 k, .int .u8 (IntKind.u8.wrap (Int.tdiv k 2)), .int .u8 (Int.tmod (IntKind.u8.wrap (Int.tdiv k 2)) 4), .int .u8 (IntKind.u8.wrap (97 + Int.tmod (IntKind.u8.wrap (Int.tdiv k 2)) 4)), .slice (some ⟨b20, 0, none⟩) 1 1, .string (strOfNums [(IntKind.u8.wrap (97 + Int.tmod (IntKind.u8.wrap (Int.tdiv k 2)) 4))]), .pointer (some ⟨gb, 0, none⟩), .pointer (some ⟨gb, 2, none⟩), .string a2, .pointer (some ⟨gb, 0, none⟩), .pointer (some ⟨gb, 2, none⟩), .string a2, .int .i64 (a2.size : Int), .int .i64 ((min a2.size 8 : Nat) : Int), .string (a2.extract 0 (min a2.size 8)), .pointer (some ⟨gb, 5, none⟩), .int .u8 k, .bool (decide (224 ≤ k)), .agg #[.string (strOfNums [98, (IntKind.u8.wrap (48 + Int.tmod k 2))]), .string (strOfNums [(IntKind.u8.wrap (97 + Int.tmod (IntKind.u8.wrap (Int.tdiv k 2)) 4))]), .string (a2.extract 0 (min a2.size 8)), .bool (decide (224 ≤ k))], undef, undef, undef, undef] := by
    rw [Go.Proofs.Ytoagfdpgnfinhaa.Inv.tmps_eq a 39 hL.2.1, show List.range 39 = [0, 1, 2, 3, 4, 5, 6, 7, 8, 9, 10, 11, 12, 13, 14, 15, 16, 17, 18, 19, 20, 21, 22, 23, 24, 25, 26, 27, 28, 29, 30, 31, 32, 33, 34, 35, 36, 37, 38] from rfl]
    simp only [List.map_cons, List.map_nil, q0, q1, q2, q3, q4, q5, q6, q7, q8, q9, q10, q11, q12, q13, q14, q15, q16, q17, q18, q19, q20, q21, q22, q23, q24, q25, q26, q27, q28, q29, q30, q31, q32, q33, q34, q35, q36, q37, q38]
   clear q0 q1 q2 q3 q4 q5 q6 q7 q8 q9 q10 q11 q12 q13 q14 q15 q16 q17 q18 q19 q20 q21 q22 q23 q24 q25 q26 q27 q28 q29 q30 q31 q32 q33 q34 q35 q36 q37 q38 k13 k20 s13 s20
   obtain ⟨tm, df⟩ := a
   obtain rfl : df = [] := hL.1
   obtain rfl : tm = _ := ht
   have nb : gb + 1 ≠ b3 := by omega
   have gb3 : w.heap.size ≤ b3 := by omega
   have BK := blk_put (blk_put (blk_put (blk_put k3 0 (.string (strOfNums [98, (IntKind.u8.wrap (48 + Int.tmod k 2))])) (cs' := #[.string (strOfNums [98, (IntKind.u8.wrap (48 + Int.tmod k 2))]), .string ⟨#[]⟩, .string ⟨#[]⟩, .bool false]) rfl) 1 (.string (strOfNums [(IntKind.u8.wrap (97 + Int.tmod (IntKind.u8.wrap (Int.tdiv k 2)) 4))])) (cs' := #[.string (strOfNums [98, (IntKind.u8.wrap (48 + Int.tmod k 2))]), .string (strOfNums [(IntKind.u8.wrap (97 + Int.tmod (IntKind.u8.wrap (Int.tdiv k 2)) 4))]), .string ⟨#[]⟩, .bool false]) rfl) 2 (.string (a2.extract 0 (min a2.size 8))) (cs' := #[.string (strOfNums [98, (IntKind.u8.wrap (48 + Int.tmod k 2))]), .string (strOfNums [(IntKind.u8.wrap (97 + Int.tmod (IntKind.u8.wrap (Int.tdiv k 2)) 4))]), .string (a2.extract 0 (min a2.size 8)), .bool false]) rfl) 3 (.bool (decide (224 ≤ k))) (cs' := #[.string (strOfNums [98, (IntKind.u8.wrap (48 + Int.tmod k 2))]), .string (strOfNums [(IntKind.u8.wrap (97 + Int.tmod (IntKind.u8.wrap (Int.tdiv k 2)) 4))]), .string (a2.extract 0 (min a2.size 8)), .bool (decide (224 ≤ k))]) rfl
   have BR := blk_far (blk_far (blk_far (blk_far (hS.2.1) (p := ⟨b3, 0, none⟩) nb (.string (strOfNums [98, (IntKind.u8.wrap (48 + Int.tmod k 2))]))) (p := ⟨b3, 1, none⟩) nb (.string (strOfNums [(IntKind.u8.wrap (97 + Int.tmod (IntKind.u8.wrap (Int.tdiv k 2)) 4))]))) (p := ⟨b3, 2, none⟩) nb (.string (a2.extract 0 (min a2.size 8)))) (p := ⟨b3, 3, none⟩) nb (.bool (decide (224 ≤ k)))
   have HB1 := Aside0.mk (below_set (j := 3) (v := .bool (decide (224 ≤ k))) (below_set (j := 2) (v := .string (a2.extract 0 (min a2.size 8))) (below_set (j := 1) (v := .string (strOfNums [(IntKind.u8.wrap (97 + Int.tmod (IntKind.u8.wrap (Int.tdiv k 2)) 4))])) (below_set (j := 0) (v := .string (strOfNums [98, (IntKind.u8.wrap (48 + Int.tmod k 2))])) (hS.2.2.1) gb3) gb3) gb3) gb3)
   obtain ⟨x0, x1, x2, x3, z0, z1, z2, z3⟩ := Ke4_ k3
   clear hL hA hst HB
   refine tenementlaw15_Put_write.op_some (i := 27) rfl rfl ?_
   unfold Oper.wp
   go_simp
   clear x0 x1 x2 x3 z0 z1 z2 z3 k3 hS
   subst hgb
   generalize ((((W.setCell ⟨b3, 0, none⟩ (.string (strOfNums [98, (IntKind.u8.wrap (48 + Int.tmod k 2))]))).setCell ⟨b3, 1, none⟩ (.string (strOfNums [(IntKind.u8.wrap (97 + Int.tmod (IntKind.u8.wrap (Int.tdiv k 2)) 4))]))).setCell ⟨b3, 2, none⟩ (.string (a2.extract 0 (min a2.size 8)))).setCell ⟨b3, 3, none⟩ (.bool (decide (224 ≤ k)))) = W2 at *
   clear W hs0 s3 hmm m0 m1
   obtain ⟨x0, x1, x2, x3, z0, z1, z2, z3⟩ := Ke4_ BK
   obtain ⟨y0, y1, y2, y3, t0, t1, t2, t3⟩ := Ke4_ BR
   have HH' := HH.out
   clear HH
   generalize (strOfNums [98, (IntKind.u8.wrap (48 + Int.tmod k 2))]) = T1 at *
   generalize (strOfNums [(IntKind.u8.wrap (97 + Int.tmod (IntKind.u8.wrap (Int.tdiv k 2)) 4))]) = T2 at *
   generalize (a2.extract 0 (min a2.size 8)) = T3 at *
   by_cases c6 : 224 ≤ k
   ·have c6b : decide (224 ≤ k) = true := decide_eq_true c6
    rw [if_pos c6] at HH'
    simp only [Option.some.injEq, Prod.mk.injEq] at HH'
    obtain ⟨rfl, rfl, rfl, rfl⟩ := HH'
    go_wp2
    have BF := blk_put (blk_put (blk_put (blk_put (blk_far BR (p := ⟨b3, 2, none⟩) nb (.string ⟨#[]⟩)) 0 (.string T1) (cs' := #[.string T1, .string ⟨#[]⟩, .string ⟨#[]⟩, .bool false]) rfl) 1 (.string T2) (cs' := #[.string T1, .string T2, .string ⟨#[]⟩, .bool false]) rfl) 2 (.string ⟨#[]⟩) (cs' := #[.string T1, .string T2, .string ⟨#[]⟩, .bool false]) rfl) 3 (.bool true) (cs' := #[.string T1, .string T2, .string ⟨#[]⟩, .bool true]) rfl
    have HF := below_set (j := 3) (v := .bool true) (below_set (j := 2) (v := .string ⟨#[]⟩) (below_set (j := 1) (v := .string T2) (below_set (j := 0) (v := .string T1) (below_set (j := 2) (v := .string ⟨#[]⟩) HB1.out gb3) (show w.heap.size ≤ w.heap.size + 1 by omega)) (show w.heap.size ≤ w.heap.size + 1 by omega)) (show w.heap.size ≤ w.heap.size + 1 by omega)) (show w.heap.size ≤ w.heap.size + 1 by omega)
    obtain ⟨f0, f1, f2, f3⟩ := Kc4_ BF
    clear x0 x1 x2 x3 y0 y1 y2 y3 z0 z1 z2 z3 t0 t1 t2 t3 BR BK BF
    refine bodyPost_ret (v := .agg #[.string T1, .string T2, .string ⟨#[]⟩, .bool true]) (by simp [results, Try.results87, go_sem, hu23, f0, f1, f2, f3]) rfl ⟨rfl, HF⟩
   ·have c6b : decide (224 ≤ k) = false := decide_eq_false c6
    rw [if_neg c6] at HH'
    simp only [Option.some.injEq, Prod.mk.injEq] at HH'
    obtain ⟨rfl, rfl, rfl, rfl⟩ := HH'
    go_wp2
    have BF := blk_put (blk_put (blk_put (blk_put (BR) 0 (.string T1) (cs' := #[.string T1, .string ⟨#[]⟩, .string ⟨#[]⟩, .bool false]) rfl) 1 (.string T2) (cs' := #[.string T1, .string T2, .string ⟨#[]⟩, .bool false]) rfl) 2 (.string T3) (cs' := #[.string T1, .string T2, .string T3, .bool false]) rfl) 3 (.bool false) (cs' := #[.string T1, .string T2, .string T3, .bool false]) rfl
    have HF := below_set (j := 3) (v := .bool false) (below_set (j := 2) (v := .string T3) (below_set (j := 1) (v := .string T2) (below_set (j := 0) (v := .string T1) (HB1.out) (show w.heap.size ≤ w.heap.size + 1 by omega)) (show w.heap.size ≤ w.heap.size + 1 by omega)) (show w.heap.size ≤ w.heap.size + 1 by omega)) (show w.heap.size ≤ w.heap.size + 1 by omega)
    obtain ⟨f0, f1, f2, f3⟩ := Kc4_ BF
    clear x0 x1 x2 x3 y0 y1 y2 y3 z0 z1 z2 z3 t0 t1 t2 t3 BR BK BF
    refine bodyPost_ret (v := .agg #[.string T1, .string T2, .string T3, .bool false]) (by simp [results, Try.results87, go_sem, hu23, f0, f1, f2, f3]) rfl ⟨rfl, HF⟩
mutual
def tenementlaw15_writes.l0 : Nat → List (S159) → Int → Bool → List (S107) → Int → Option ((List (S107)))
 | 0, _, _, _, _, _ => none
 | k + 1, x0, x1, x2, x7, x8 => if x8 < (x0.length : Int) then (tenementlaw15_writes.j1 k x0 x1 x2 x7 x8 (decide ((x7.length : Int) < x1))) else (tenementlaw15_writes.j1 k x0 x1 x2 x7 x8 false)
def tenementlaw15_writes.j1 : Nat → List (S159) → Int → Bool → List (S107) → Int → Bool → Option ((List (S107)))
 | 0, _, _, _, _, _, _ => none
 | k + 1, x0, x1, x2, x7, x8, x22 => if x22 = true then (if 0 ≤ x8 then (if x8 < (x0.length : Int) then (if x2 = true then (tenementlaw15_writes.j2 k x0 x1 x2 x7 x8 ((rd_T159 x0 x8).f0.f0) ((rd_T159 x0 x8).f0.f1) ((rd_T159 x0 x8).f0.f2) ((rd_T159 x0 x8).f0.f3) true ((rd_T159 x0 x8).f2)) else (tenementlaw15_writes.j2 k x0 x1 x2 x7 x8 ((rd_T159 x0 x8).f0.f0) ((rd_T159 x0 x8).f0.f1) ((rd_T159 x0 x8).f0.f2) ((rd_T159 x0 x8).f0.f3) ((rd_T159 x0 x8).f1) ((rd_T159 x0 x8).f2))) else (none)) else (none)) else (some x7)
def tenementlaw15_writes.j2 : Nat → List (S159) → Int → Bool → List (S107) → Int → ByteArray → ByteArray → ByteArray → Bool → Bool → Int → Option ((List (S107)))
 | 0, _, _, _, _, _, _, _, _, _, _, _ => none
 | k + 1, x0, x1, x2, x7, x8, x118, x119, x120, x121, x104, x122 => (tenementlaw15_Put_write.f x118 x119 x120 x121 x104 x122).bind fun bt304 => (tenementlaw15_writes.l1 k x0 x1 x2 x7 x8 false 0 bt304.1 bt304.2.1 bt304.2.2.1 bt304.2.2.2)
def tenementlaw15_writes.l1 : Nat → List (S159) → Int → Bool → List (S107) → Int → Bool → Int → ByteArray → ByteArray → ByteArray → Bool → Option ((List (S107)))
 | 0, _, _, _, _, _, _, _, _, _, _, _ => none
 | k + 1, x0, x1, x2, x7, x8, x11, x12, x106, x108, x109, x110 => if x12 < (x7.length : Int) then (if x11 = true then (tenementlaw15_writes.l1 k x0 x1 x2 x7 x8 true (wrap64 (x12 + 1)) x106 x108 x109 x110) else (if 0 ≤ x12 then (if ((rd_T107 x7 x12).f0).toList = x106.toList then (tenementlaw15_writes.l1 k x0 x1 x2 x7 x8 (((rd_T107 x7 x12).f1).toList == x108.toList) (wrap64 (x12 + 1)) x106 x108 x109 x110) else (tenementlaw15_writes.l1 k x0 x1 x2 x7 x8 false (wrap64 (x12 + 1)) x106 x108 x109 x110)) else (none))) else (if x2 = true then (if x11 = true then (tenementlaw15_writes.l0 k x0 x1 x2 x7 (wrap64 (x8 + 1))) else (if x7.length < 2513169434916 then (tenementlaw15_writes.l0 k x0 x1 x2 (x7 ++ [(⟨x106, x108, x109, x110⟩ : S107)]) (wrap64 (x8 + 1))) else (none))) else (if x7.length < 2513169434916 then (tenementlaw15_writes.l0 k x0 x1 x2 (x7 ++ [(⟨x106, x108, x109, x110⟩ : S107)]) (wrap64 (x8 + 1))) else (none)))
end
def tenementlaw15_writes.f (k : Nat) (l0 : List (S159)) (a1 : Int) (a2 : Bool) : Option ((List (S107))) := tenementlaw15_writes.l0 k l0 a1 a2 ([] : List (S107)) 0
set_option maxHeartbeats 8000000 in
set_option maxRecDepth 100000 in
theorem tenementlaw15_writes.calls (k : Nat) (A0 : Option Addr) (c0 : Nat) (l0 : List (S159)) (a1 : Int) (a2 : Bool) (r : List (S107)) (w : World) (hr0 : Kd.C k159 w A0 l0.length l0) (hc0 : l0.length ≤ c0) (h : tenementlaw15_writes.f k l0 a1 a2 = some r) :
  Calls Try.prog 58 #[.slice A0 l0.length c0, .int .i64 a1, .bool a2] w fun e w' => ∃ v0_ : Value, e = .returned (v0_) ∧ Kd.R k107 107 w' w.heap.size (fun _ => True) v0_ r ∧ Below w.heap.size w w' := by
 have hu159 := Try.underlying159
 have hu107 := Try.underlying107
 have HR0 := Aside0.mk hr0
 have HC0 := Aside0.mk hc0
 clear hr0 hc0
 have HB := Aside0.mk (Below.refl w.heap.size w)
 have H : (tenementlaw15_writes.l0 k l0 a1 a2 ([] : List (S107)) 0) = some r := h
 clear h
 have H' := Aside0.mk H
 clear H
 go_enter Try.func58, Try.ntmps58
 go_wp2
 repeat (go_quiet (fail); try go_wp2)
 go_loopg [7, 8] k (fun kq v7 v8 w' => ∃ (x7_1 : List (S107)) (x8_1 : Int), v8 = .int .i64 x8_1 ∧ Aside0 (tenementlaw15_writes.l0 kq l0 a1 a2 x7_1 x8_1 = some r) ∧ Aside0 (kq ≤ k) ∧ Aside0 (Kd.R k107 107 w' w.heap.size (fun _ => True) v7 x7_1) ∧ Aside0 (Below w.heap.size w w'))
 case atStart => exact ⟨(([] : List (S107))), (0), (by first | rfl | (simp; done) | (simp [*]; done)), H', ⟨Nat.le_refl _⟩, ⟨by first | exact Kd.R_nil _ _ _ _ _ | exact Kd.N_nil _ _ _ _ _ | exact Kd.V_nil _ _ _ _ _ | exact Kd.Q_nil _ _ _ _ _ | exact Kd.S_nil _ _ _ _ _⟩, ⟨Ky_ HB⟩⟩
 case round =>
  clear H'
  try clear p2
  obtain ⟨x7_1, x8_1, rfl, HA, HK1, HO_7, HB⟩ := hrel
  cases gk with
  | zero => exact absurd HA.out (by simp [tenementlaw15_writes.l0])
  | succ k1 =>
   have H := HA.out
   clear HA
   simp only [tenementlaw15_writes.l0] at H
   have HC4 := Aside0.mk H
   clear H
   go_upto_region 3 with (fail)
   repeat (go_quiet (fail); go_upto_region 3 with (fail))
   go_cut [22] (fun v22 wc => ∃ (kq : Nat) (x22_3 : Bool), v22 = .bool x22_3 ∧ Aside0 (tenementlaw15_writes.j1 kq l0 a1 a2 x7_1 x8_1 x22_3 = some r) ∧ Aside0 (kq ≤ k1) ∧ Aside0 (Kd.R k107 107 wc w.heap.size (fun _ => True) u7 x7_1) ∧ Aside0 (Below w.heap.size w wc))
   case first =>
    have H := HC4.out
    clear HC4
    by_cases c5 : x8_1 < (l0.length : Int)
    rotate_left
    ·rw [if_neg c5] at H
     have c5b0 : decide (x8_1 < (l0.length : Int)) = false := decide_eq_false c5
     clear c5
     (first | rw [c5b0] | (simp only [i64_w, i32_w]; rw [c5b0]) | skip)
     have H' := Aside0.mk H
     clear H
     go_wp2
     repeat (go_quiet (fail); try go_wp2)
     go_meet
     case rel => exact ⟨_, (false), (by first | rfl | (simp; done) | (simp [*]; done)), H', ⟨by have := HK1.out; first | omega | exact Nat.le_refl _⟩, ⟨by (with_reducible repeat (first | apply Kd.R_alloc | apply Kd.R_drewN | apply Kd.R_drew)); exact HO_7.out⟩, ⟨Ky_ HB⟩⟩
    rw [if_pos c5] at H
    have c5b0 : decide (x8_1 < (l0.length : Int)) = true := decide_eq_true c5
    clear c5
    (first | rw [c5b0] | (simp only [i64_w, i32_w]; rw [c5b0]) | skip)
    have H' := Aside0.mk H
    clear H
    obtain ⟨Ao6, co6, eo6⟩ := Kd.R_slice HO_7.out
    subst eo6
    go_wp2
    repeat (go_quiet (fail); try go_wp2)
    go_meet
    case rel => exact ⟨_, (decide ((x7_1.length : Int) < a1)), (by first | rfl | (simp; done) | (simp [*]; done)), H', ⟨by have := HK1.out; first | omega | exact Nat.le_refl _⟩, ⟨by (with_reducible repeat (first | apply Kd.R_alloc | apply Kd.R_drewN | apply Kd.R_drew)); exact HO_7.out⟩, ⟨Ky_ HB⟩⟩
   case rest =>
    clear HC4
    try clear p2
    try clear c5
    try clear c5b0
    try clear p2
    obtain ⟨kq, x22_3, rfl, HA, HJ3, HO_7, HB⟩ := hcut
    cases kq with
    | zero => exact absurd HA.out (by simp [tenementlaw15_writes.j1])
    | succ kj3 =>
     have H := HA.out
     clear HA
     simp only [tenementlaw15_writes.j1] at H
     by_cases c7 : x22_3 = true
     rotate_left
     ·replace c7 := Bool.eq_false_iff.mpr c7
      subst c7
      have H1 : (some x7_1) = some r := by rw [if_neg (show ¬ (false = true) by decide)] at H; exact H
      clear H
      have H := H1
      clear H1
      obtain rfl := Option.some.inj H
      go_wp2
      repeat (go_quiet (fail); try go_wp2)
      go_ret
      exact ⟨_, by first | rfl | (simp [errW_none, errW_some] <;> rfl) | (simp [*, errW_none, errW_some] <;> rfl), by (with_reducible repeat (first | apply Kd.R_alloc | apply Kd.R_drewN | apply Kd.R_drew)); exact HO_7.out, Ky_ HB⟩
     subst c7
     have H1 : (if 0 ≤ x8_1 then (if x8_1 < (l0.length : Int) then (if a2 = true then (tenementlaw15_writes.j2 kj3 l0 a1 a2 x7_1 x8_1 ((rd_T159 l0 x8_1).f0.f0) ((rd_T159 l0 x8_1).f0.f1) ((rd_T159 l0 x8_1).f0.f2) ((rd_T159 l0 x8_1).f0.f3) true ((rd_T159 l0 x8_1).f2)) else (tenementlaw15_writes.j2 kj3 l0 a1 a2 x7_1 x8_1 ((rd_T159 l0 x8_1).f0.f0) ((rd_T159 l0 x8_1).f0.f1) ((rd_T159 l0 x8_1).f0.f2) ((rd_T159 l0 x8_1).f0.f3) ((rd_T159 l0 x8_1).f1) ((rd_T159 l0 x8_1).f2))) else (none)) else (none)) = some r := by rw [if_pos rfl] at H; exact H
     clear H
     have H := H1
     clear H1
     by_cases c8 : 0 ≤ x8_1
     rotate_left
     ·rw [if_neg c8] at H
      exact absurd H (by simp)
     rw [if_pos c8] at H
     have c8b0 : decide (0 ≤ x8_1) = true := decide_eq_true c8
     clear c8
     by_cases c9 : x8_1 < (l0.length : Int)
     rotate_left
     ·rw [if_neg c9] at H
      exact absurd H (by simp)
     rw [if_pos c9] at H
     have c9b0 : decide (x8_1 < (l0.length : Int)) = true := decide_eq_true c9
     clear c9
     have HC10 := Aside0.mk H
     clear H
     have p302 : 0 ≤ (x8_1 : Int) := of_decide_eq_true (by first | (with_reducible assumption) | assumption)
     have q302 : x8_1 < (l0.length : Int) := of_decide_eq_true (by first | (with_reducible assumption) | assumption)
     obtain ⟨ad302, e302, hx302_0, hx302_1, hx302_2, hx302_3, hx302_4, hx302_5⟩ := at_T159 HR0.out x8_1 p302 q302
     cases e302
     replace hx302_0 := (HB.out.cell (World.block_lt_of_cell? w _ hx302_0)).trans hx302_0
     replace hx302_1 := (HB.out.cell (World.block_lt_of_cell? w _ hx302_1)).trans hx302_1
     replace hx302_2 := (HB.out.cell (World.block_lt_of_cell? w _ hx302_2)).trans hx302_2
     replace hx302_3 := (HB.out.cell (World.block_lt_of_cell? w _ hx302_3)).trans hx302_3
     replace hx302_4 := (HB.out.cell (World.block_lt_of_cell? w _ hx302_4)).trans hx302_4
     replace hx302_5 := (HB.out.cell (World.block_lt_of_cell? w _ hx302_5)).trans hx302_5
     replace p302 := eq_true p302
     replace q302 := eq_true q302
     go_upto_if 29 with (first | ((with_reducible refine gate_dst (N := 9) rfl ?_); refine Ka_ 9 #[.string (⟨#[]⟩ : ByteArray), .string (⟨#[]⟩ : ByteArray), .string (⟨#[]⟩ : ByteArray), .bool false, .bool false, .int .u8 0] 159 ?_; intro gb303 hg w11 hbox hb; have BK303 := Aside0.mk (hbox); have GW303 := Kw_ HB hg; have GE303 := GW303; replace HO_7 := Aside0.mk (Kd.R_below (Ku_ HO_7) hb); replace HB := Ks_ HB hb; clear hb hbox hg; obtain ⟨hcz12_0, hcz12_1, hcz12_2, hcz12_3, hcz12_4, hcz12_5, hfz12_0, hfz12_1, hfz12_2, hfz12_3, hfz12_4, hfz12_5⟩ := Ke6_ BK303.out))
     repeat (go_quiet (first | ((with_reducible refine gate_dst (N := 9) rfl ?_); refine Ka_ 9 #[.string (⟨#[]⟩ : ByteArray), .string (⟨#[]⟩ : ByteArray), .string (⟨#[]⟩ : ByteArray), .bool false, .bool false, .int .u8 0] 159 ?_; intro gb303 hg w11 hbox hb; have BK303 := Aside0.mk (hbox); have GW303 := Kw_ HB hg; have GE303 := GW303; replace HO_7 := Aside0.mk (Kd.R_below (Ku_ HO_7) hb); replace HB := Ks_ HB hb; clear hb hbox hg; obtain ⟨hcz12_0, hcz12_1, hcz12_2, hcz12_3, hcz12_4, hcz12_5, hfz12_0, hfz12_1, hfz12_2, hfz12_3, hfz12_4, hfz12_5⟩ := Ke6_ BK303.out)); go_upto_if 29 with (first | ((with_reducible refine gate_dst (N := 9) rfl ?_); refine Ka_ 9 #[.string (⟨#[]⟩ : ByteArray), .string (⟨#[]⟩ : ByteArray), .string (⟨#[]⟩ : ByteArray), .bool false, .bool false, .int .u8 0] 159 ?_; intro gb303 hg w11 hbox hb; have BK303 := Aside0.mk (hbox); have GW303 := Kw_ HB hg; have GE303 := GW303; replace HO_7 := Aside0.mk (Kd.R_below (Ku_ HO_7) hb); replace HB := Ks_ HB hb; clear hb hbox hg; obtain ⟨hcz12_0, hcz12_1, hcz12_2, hcz12_3, hcz12_4, hcz12_5, hfz12_0, hfz12_1, hfz12_2, hfz12_3, hfz12_4, hfz12_5⟩ := Ke6_ BK303.out)))
     (try simp only [Act.put, List.setIfInBounds_toArray, List.set_cons_zero, List.set_cons_succ])
     go_cut [] (fun wc => ∃ (kq : Nat) (x104_9 : Bool), Aside0 (tenementlaw15_writes.j2 kq l0 a1 a2 x7_1 x8_1 ((rd_T159 l0 x8_1).f0.f0) ((rd_T159 l0 x8_1).f0.f1) ((rd_T159 l0 x8_1).f0.f2) ((rd_T159 l0 x8_1).f0.f3) x104_9 ((rd_T159 l0 x8_1).f2) = some r) ∧ Aside0 (kq ≤ kj3) ∧ Aside0 (Kd.R k107 107 wc w.heap.size (fun _ => True) u7 x7_1) ∧ Aside0 (wc.heap[gb303]? = some (.cells #[.string ((rd_T159 l0 x8_1).f0.f0), .string ((rd_T159 l0 x8_1).f0.f1), .string ((rd_T159 l0 x8_1).f0.f2), .bool ((rd_T159 l0 x8_1).f0.f3), .bool x104_9, .int .u8 ((rd_T159 l0 x8_1).f2)] 159 (0, 0))) ∧ Aside0 (Below w.heap.size w wc))
     case first =>
      have H := HC10.out
      clear HC10
      by_cases c13 : a2 = true
      rotate_left
      ·replace c13 := Bool.eq_false_iff.mpr c13
       subst c13
       have H1 : (tenementlaw15_writes.j2 kj3 l0 a1 false x7_1 x8_1 ((rd_T159 l0 x8_1).f0.f0) ((rd_T159 l0 x8_1).f0.f1) ((rd_T159 l0 x8_1).f0.f2) ((rd_T159 l0 x8_1).f0.f3) ((rd_T159 l0 x8_1).f1) ((rd_T159 l0 x8_1).f2)) = some r := by rw [if_neg (show ¬ (false = true) by decide)] at H; exact H
       clear H
       have H := H1
       clear H1
       have H' := Aside0.mk H
       clear H
       go_wp2
       repeat (go_quiet (fail); try go_wp2)
       go_meet
       case rel => exact ⟨_, ((rd_T159 l0 x8_1).f1), H', ⟨by have := HK1.out; have := HJ3.out; first | omega | exact Nat.le_refl _⟩, ⟨by (with_reducible repeat (first | apply Kd.R_alloc | apply Kd.R_drewN | apply Kd.R_drew)); exact Kd.R_mono (Kd.R_far (p := ⟨gb303, 5, none⟩) (Kd.R_far (p := ⟨gb303, 4, none⟩) (Kd.R_far (p := ⟨gb303, 3, none⟩) (Kd.R_far (p := ⟨gb303, 2, none⟩) (Kd.R_far (p := ⟨gb303, 1, none⟩) (Kd.R_far (p := ⟨gb303, 0, none⟩) (Kd.R_types HO_7.out BK303.out (by decide)) (fun _ hk => hk.2) (.string ((rd_T159 l0 x8_1).f0.f0))) (fun _ hk => hk.2) (.string ((rd_T159 l0 x8_1).f0.f1))) (fun _ hk => hk.2) (.string ((rd_T159 l0 x8_1).f0.f2))) (fun _ hk => hk.2) (.bool ((rd_T159 l0 x8_1).f0.f3))) (fun _ hk => hk.2) (.bool ((rd_T159 l0 x8_1).f1))) (fun _ hk => hk.2) (.int .u8 ((rd_T159 l0 x8_1).f2))) (fun _ hk => trivial)⟩, ⟨by refine Kv_ ?_; refine blk_put (cs := #[.string ((rd_T159 l0 x8_1).f0.f0), .string ((rd_T159 l0 x8_1).f0.f1), .string ((rd_T159 l0 x8_1).f0.f2), .bool ((rd_T159 l0 x8_1).f0.f3), .bool ((rd_T159 l0 x8_1).f1), .int .u8 0]) ?_ 5 _ rfl; refine Kv_ ?_; refine blk_put (cs := #[.string ((rd_T159 l0 x8_1).f0.f0), .string ((rd_T159 l0 x8_1).f0.f1), .string ((rd_T159 l0 x8_1).f0.f2), .bool ((rd_T159 l0 x8_1).f0.f3), .bool false, .int .u8 0]) ?_ 4 _ rfl; refine Kv_ ?_; refine blk_put (cs := #[.string ((rd_T159 l0 x8_1).f0.f0), .string ((rd_T159 l0 x8_1).f0.f1), .string ((rd_T159 l0 x8_1).f0.f2), .bool false, .bool false, .int .u8 0]) ?_ 3 _ rfl; refine Kv_ ?_; refine blk_put (cs := #[.string ((rd_T159 l0 x8_1).f0.f0), .string ((rd_T159 l0 x8_1).f0.f1), .string (⟨#[]⟩ : ByteArray), .bool false, .bool false, .int .u8 0]) ?_ 2 _ rfl; refine Kv_ ?_; refine blk_put (cs := #[.string ((rd_T159 l0 x8_1).f0.f0), .string (⟨#[]⟩ : ByteArray), .string (⟨#[]⟩ : ByteArray), .bool false, .bool false, .int .u8 0]) ?_ 1 _ rfl; refine Kv_ ?_; refine blk_put (cs := #[.string (⟨#[]⟩ : ByteArray), .string (⟨#[]⟩ : ByteArray), .string (⟨#[]⟩ : ByteArray), .bool false, .bool false, .int .u8 0]) ?_ 0 _ rfl; exact Kq_ BK303⟩, ⟨Kz_ HB GE303⟩⟩
      subst c13
      have H1 : (tenementlaw15_writes.j2 kj3 l0 a1 true x7_1 x8_1 ((rd_T159 l0 x8_1).f0.f0) ((rd_T159 l0 x8_1).f0.f1) ((rd_T159 l0 x8_1).f0.f2) ((rd_T159 l0 x8_1).f0.f3) true ((rd_T159 l0 x8_1).f2)) = some r := by rw [if_pos rfl] at H; exact H
      clear H
      have H := H1
      clear H1
      have H' := Aside0.mk H
      clear H
      obtain ⟨hcz14_0, hcz14_1, hcz14_2, hcz14_3, hcz14_4, hcz14_5, hfz14_0, hfz14_1, hfz14_2, hfz14_3, hfz14_4, hfz14_5⟩ := Ke6_ BK303.out
      go_wp2
      repeat (go_quiet (fail); try go_wp2)
      go_meet
      case rel => exact ⟨_, (true), H', ⟨by have := HK1.out; have := HJ3.out; first | omega | exact Nat.le_refl _⟩, ⟨by (with_reducible repeat (first | apply Kd.R_alloc | apply Kd.R_drewN | apply Kd.R_drew)); exact Kd.R_mono (Kd.R_far (p := ⟨gb303, 4, none⟩) (Kd.R_far (p := ⟨gb303, 5, none⟩) (Kd.R_far (p := ⟨gb303, 4, none⟩) (Kd.R_far (p := ⟨gb303, 3, none⟩) (Kd.R_far (p := ⟨gb303, 2, none⟩) (Kd.R_far (p := ⟨gb303, 1, none⟩) (Kd.R_far (p := ⟨gb303, 0, none⟩) (Kd.R_types HO_7.out BK303.out (by decide)) (fun _ hk => hk.2) (.string ((rd_T159 l0 x8_1).f0.f0))) (fun _ hk => hk.2) (.string ((rd_T159 l0 x8_1).f0.f1))) (fun _ hk => hk.2) (.string ((rd_T159 l0 x8_1).f0.f2))) (fun _ hk => hk.2) (.bool ((rd_T159 l0 x8_1).f0.f3))) (fun _ hk => hk.2) (.bool ((rd_T159 l0 x8_1).f1))) (fun _ hk => hk.2) (.int .u8 ((rd_T159 l0 x8_1).f2))) (fun _ hk => hk.2) (.bool true)) (fun _ hk => trivial)⟩, ⟨by refine Kv_ ?_; refine blk_put (cs := #[.string ((rd_T159 l0 x8_1).f0.f0), .string ((rd_T159 l0 x8_1).f0.f1), .string ((rd_T159 l0 x8_1).f0.f2), .bool ((rd_T159 l0 x8_1).f0.f3), .bool ((rd_T159 l0 x8_1).f1), .int .u8 ((rd_T159 l0 x8_1).f2)]) ?_ 4 _ rfl; refine Kv_ ?_; refine blk_put (cs := #[.string ((rd_T159 l0 x8_1).f0.f0), .string ((rd_T159 l0 x8_1).f0.f1), .string ((rd_T159 l0 x8_1).f0.f2), .bool ((rd_T159 l0 x8_1).f0.f3), .bool ((rd_T159 l0 x8_1).f1), .int .u8 0]) ?_ 5 _ rfl; refine Kv_ ?_; refine blk_put (cs := #[.string ((rd_T159 l0 x8_1).f0.f0), .string ((rd_T159 l0 x8_1).f0.f1), .string ((rd_T159 l0 x8_1).f0.f2), .bool ((rd_T159 l0 x8_1).f0.f3), .bool false, .int .u8 0]) ?_ 4 _ rfl; refine Kv_ ?_; refine blk_put (cs := #[.string ((rd_T159 l0 x8_1).f0.f0), .string ((rd_T159 l0 x8_1).f0.f1), .string ((rd_T159 l0 x8_1).f0.f2), .bool false, .bool false, .int .u8 0]) ?_ 3 _ rfl; refine Kv_ ?_; refine blk_put (cs := #[.string ((rd_T159 l0 x8_1).f0.f0), .string ((rd_T159 l0 x8_1).f0.f1), .string (⟨#[]⟩ : ByteArray), .bool false, .bool false, .int .u8 0]) ?_ 2 _ rfl; refine Kv_ ?_; refine blk_put (cs := #[.string ((rd_T159 l0 x8_1).f0.f0), .string (⟨#[]⟩ : ByteArray), .string (⟨#[]⟩ : ByteArray), .bool false, .bool false, .int .u8 0]) ?_ 1 _ rfl; refine Kv_ ?_; refine blk_put (cs := #[.string (⟨#[]⟩ : ByteArray), .string (⟨#[]⟩ : ByteArray), .string (⟨#[]⟩ : ByteArray), .bool false, .bool false, .int .u8 0]) ?_ 0 _ rfl; exact Kq_ BK303⟩, ⟨Kz_ HB GE303⟩⟩
     case rest =>
      clear HC10
      try clear c1
      try clear p2
      try clear p3
      try clear q3
      try clear hx3
      try clear c5
      try clear c5b0
      try clear c7
      try clear c8
      try clear c8b0
      try clear c9
      try clear c9b0
      try clear c13
      try clear hcz12_0
      try clear hcz12_1
      try clear hcz12_2
      try clear hcz12_3
      try clear hcz12_4
      try clear hcz12_5
      try clear hcz14_0
      try clear hcz14_1
      try clear hcz14_2
      try clear hcz14_3
      try clear hcz14_4
      try clear hcz14_5
      try clear hfz12_0
      try clear hfz12_1
      try clear hfz12_2
      try clear hfz12_3
      try clear hfz12_4
      try clear hfz12_5
      try clear hfz14_0
      try clear hfz14_1
      try clear hfz14_2
      try clear hfz14_3
      try clear hfz14_4
      try clear hfz14_5
      try clear hx302_0
      try clear hx302_1
      try clear hx302_2
      try clear hx302_3
      try clear hx302_4
      try clear hx302_5
      try clear p2
      try clear p302
      try clear q302
      obtain ⟨kq, x104_9, HA, HJ9, HO_7, BK303, HB⟩ := hcut
      cases kq with
      | zero => exact absurd HA.out (by simp [tenementlaw15_writes.j2])
      | succ kj9 =>
       have H := HA.out
       clear HA
       simp only [tenementlaw15_writes.j2] at H
       replace H := Option.bind_eq_some_iff.mp H
       obtain ⟨⟨t304, t305, t306, t307⟩, A150, H⟩ := H
       replace H : (tenementlaw15_writes.l1 kj9 l0 a1 a2 x7_1 x8_1 false 0 t304 t305 t306 t307) = some r := H
       have A15 := Aside0.mk A150
       clear A150
       have H' := Aside0.mk H
       clear H
       obtain ⟨hcz16_0, hcz16_1, hcz16_2, hcz16_3, hcz16_4, hcz16_5, hfz16_0, hfz16_1, hfz16_2, hfz16_3, hfz16_4, hfz16_5⟩ := Ke6_ BK303.out
       go_wp2_with (first | (go_at_call 87; (with_reducible refine (tenementlaw15_Put_write.calls ((rd_T159 l0 x8_1).f0.f0) ((rd_T159 l0 x8_1).f0.f1) ((rd_T159 l0 x8_1).f0.f2) ((rd_T159 l0 x8_1).f0.f3) x104_9 ((rd_T159 l0 x8_1).f2) t304 t305 t306 t307 _ A15.out).mono ?_); rintro e w17 ⟨rfl, hb⟩; replace HO_7 := Aside0.mk (Kd.R_below (Ku_ HO_7) hb); replace BK303 := Kb_ BK303 hb; replace HB := Ks_ HB hb; (try clear hb); (try clear hb2); (try clear hk); (try clear hi)) | ((with_reducible refine gate_dst (N := 10) rfl ?_); refine Ka_ 10 #[.string (⟨#[]⟩ : ByteArray), .string (⟨#[]⟩ : ByteArray), .string (⟨#[]⟩ : ByteArray), .bool false] 107 ?_; intro gb308 hg w18 hbox hb; have BK308 := Aside0.mk (hbox); have GW308 := Kw_ HB hg; have GE308 := GW308; have NB303_308 := Kl_ BK303 hg; have NB308_303 := Kr_ BK303 hg; replace HO_7 := Aside0.mk (Kd.R_below (Kd.R_elderB (Ku_ HO_7) gb308 (Nat.le_of_eq hg.symm)) hb); replace BK303 := Kb_ BK303 hb; replace HB := Ks_ HB hb; clear hb hbox hg; have hnb19 := NB308_303.out; have hnc19 := NB303_308.out; obtain ⟨hcz20_0, hcz20_1, hcz20_2, hcz20_3, hfz20_0, hfz20_1, hfz20_2, hfz20_3⟩ := Ke4_ BK308.out))
       repeat (go_quiet (first | (go_at_call 87; (with_reducible refine (tenementlaw15_Put_write.calls ((rd_T159 l0 x8_1).f0.f0) ((rd_T159 l0 x8_1).f0.f1) ((rd_T159 l0 x8_1).f0.f2) ((rd_T159 l0 x8_1).f0.f3) x104_9 ((rd_T159 l0 x8_1).f2) t304 t305 t306 t307 _ A15.out).mono ?_); rintro e w17 ⟨rfl, hb⟩; replace HO_7 := Aside0.mk (Kd.R_below (Ku_ HO_7) hb); replace BK303 := Kb_ BK303 hb; replace HB := Ks_ HB hb; (try clear hb); (try clear hb2); (try clear hk); (try clear hi)) | ((with_reducible refine gate_dst (N := 10) rfl ?_); refine Ka_ 10 #[.string (⟨#[]⟩ : ByteArray), .string (⟨#[]⟩ : ByteArray), .string (⟨#[]⟩ : ByteArray), .bool false] 107 ?_; intro gb308 hg w18 hbox hb; have BK308 := Aside0.mk (hbox); have GW308 := Kw_ HB hg; have GE308 := GW308; have NB303_308 := Kl_ BK303 hg; have NB308_303 := Kr_ BK303 hg; replace HO_7 := Aside0.mk (Kd.R_below (Kd.R_elderB (Ku_ HO_7) gb308 (Nat.le_of_eq hg.symm)) hb); replace BK303 := Kb_ BK303 hb; replace HB := Ks_ HB hb; clear hb hbox hg; have hnb19 := NB308_303.out; have hnc19 := NB303_308.out; obtain ⟨hcz20_0, hcz20_1, hcz20_2, hcz20_3, hfz20_0, hfz20_1, hfz20_2, hfz20_3⟩ := Ke4_ BK308.out)); try go_wp2_with (first | (go_at_call 87; (with_reducible refine (tenementlaw15_Put_write.calls ((rd_T159 l0 x8_1).f0.f0) ((rd_T159 l0 x8_1).f0.f1) ((rd_T159 l0 x8_1).f0.f2) ((rd_T159 l0 x8_1).f0.f3) x104_9 ((rd_T159 l0 x8_1).f2) t304 t305 t306 t307 _ A15.out).mono ?_); rintro e w17 ⟨rfl, hb⟩; replace HO_7 := Aside0.mk (Kd.R_below (Ku_ HO_7) hb); replace BK303 := Kb_ BK303 hb; replace HB := Ks_ HB hb; (try clear hb); (try clear hb2); (try clear hk); (try clear hi)) | ((with_reducible refine gate_dst (N := 10) rfl ?_); refine Ka_ 10 #[.string (⟨#[]⟩ : ByteArray), .string (⟨#[]⟩ : ByteArray), .string (⟨#[]⟩ : ByteArray), .bool false] 107 ?_; intro gb308 hg w18 hbox hb; have BK308 := Aside0.mk (hbox); have GW308 := Kw_ HB hg; have GE308 := GW308; have NB303_308 := Kl_ BK303 hg; have NB308_303 := Kr_ BK303 hg; replace HO_7 := Aside0.mk (Kd.R_below (Kd.R_elderB (Ku_ HO_7) gb308 (Nat.le_of_eq hg.symm)) hb); replace BK303 := Kb_ BK303 hb; replace HB := Ks_ HB hb; clear hb hbox hg; have hnb19 := NB308_303.out; have hnc19 := NB303_308.out; obtain ⟨hcz20_0, hcz20_1, hcz20_2, hcz20_3, hfz20_0, hfz20_1, hfz20_2, hfz20_3⟩ := Ke4_ BK308.out)))
       go_loopg [11, 12] kj9 (fun kq v11 v12 w' => ∃ (x11_4 : Bool) (x12_4 : Int), v11 = .bool x11_4 ∧ v12 = .int .i64 x12_4 ∧ Aside0 (tenementlaw15_writes.l1 kq l0 a1 a2 x7_1 x8_1 x11_4 x12_4 t304 t305 t306 t307 = some r) ∧ Aside0 (kq ≤ kj9) ∧ Aside0 (Kd.R k107 107 w' w.heap.size (fun k_ => k_ ≠ gb308) u7 x7_1) ∧ Aside0 (w'.heap[gb303]? = some (.cells #[.string ((rd_T159 l0 x8_1).f0.f0), .string ((rd_T159 l0 x8_1).f0.f1), .string ((rd_T159 l0 x8_1).f0.f2), .bool ((rd_T159 l0 x8_1).f0.f3), .bool x104_9, .int .u8 ((rd_T159 l0 x8_1).f2)] 159 (0, 0))) ∧ Aside0 (w'.heap[gb308]? = some (.cells #[.string t304, .string t305, .string t306, .bool t307] 107 (0, 0))) ∧ Aside0 (Below w.heap.size w w'))
       case atStart => exact ⟨(false), (0), (by first | rfl | (simp; done) | (simp [*]; done)), (by first | rfl | (simp; done) | (simp [*]; done)), H', ⟨Nat.le_refl _⟩, ⟨by (with_reducible repeat (first | apply Kd.R_alloc | apply Kd.R_drewN | apply Kd.R_drew)); exact Kd.R_mono (Kd.R_far (p := ⟨gb308, 3, none⟩) (Kd.R_far (p := ⟨gb308, 2, none⟩) (Kd.R_far (p := ⟨gb308, 1, none⟩) (Kd.R_far (p := ⟨gb308, 0, none⟩) (Kd.R_mono HO_7.out (fun k_ hk => (⟨hk, hk.2⟩ : _ ∧ k_ ≠ gb308))) (fun _ hk => hk.2) (.string t304)) (fun _ hk => hk.2) (.string t305)) (fun _ hk => hk.2) (.string t306)) (fun _ hk => hk.2) (.bool t307)) (fun _ hk => hk.1.2)⟩, ⟨by exact K1b_ BK303 NB303_308⟩, ⟨by refine Kv_ ?_; refine blk_put (cs := #[.string t304, .string t305, .string t306, .bool false]) ?_ 3 _ rfl; refine Kv_ ?_; refine blk_put (cs := #[.string t304, .string t305, .string (⟨#[]⟩ : ByteArray), .bool false]) ?_ 2 _ rfl; refine Kv_ ?_; refine blk_put (cs := #[.string t304, .string (⟨#[]⟩ : ByteArray), .string (⟨#[]⟩ : ByteArray), .bool false]) ?_ 1 _ rfl; refine Kv_ ?_; refine blk_put (cs := #[.string (⟨#[]⟩ : ByteArray), .string (⟨#[]⟩ : ByteArray), .string (⟨#[]⟩ : ByteArray), .bool false]) ?_ 0 _ rfl; exact Kq_ BK308⟩, ⟨K2a_ HB GE303 GE308⟩⟩
       case round =>
        clear H'
        try clear c1
        try clear p2
        try clear p3
        try clear q3
        try clear hx3
        try clear c5
        try clear c5b0
        try clear c7
        try clear c8
        try clear c8b0
        try clear c9
        try clear c9b0
        try clear c13
        try clear c19
        try clear hcz12_0
        try clear hcz12_1
        try clear hcz12_2
        try clear hcz12_3
        try clear hcz12_4
        try clear hcz12_5
        try clear hcz14_0
        try clear hcz14_1
        try clear hcz14_2
        try clear hcz14_3
        try clear hcz14_4
        try clear hcz14_5
        try clear hcz16_0
        try clear hcz16_1
        try clear hcz16_2
        try clear hcz16_3
        try clear hcz16_4
        try clear hcz16_5
        try clear hcz20_0
        try clear hcz20_1
        try clear hcz20_2
        try clear hcz20_3
        try clear hfz12_0
        try clear hfz12_1
        try clear hfz12_2
        try clear hfz12_3
        try clear hfz12_4
        try clear hfz12_5
        try clear hfz14_0
        try clear hfz14_1
        try clear hfz14_2
        try clear hfz14_3
        try clear hfz14_4
        try clear hfz14_5
        try clear hfz16_0
        try clear hfz16_1
        try clear hfz16_2
        try clear hfz16_3
        try clear hfz16_4
        try clear hfz16_5
        try clear hfz20_0
        try clear hfz20_1
        try clear hfz20_2
        try clear hfz20_3
        try clear hx302_0
        try clear hx302_1
        try clear hx302_2
        try clear hx302_3
        try clear hx302_4
        try clear hx302_5
        try clear p2
        try clear p3
        try clear p302
        try clear q3
        try clear q302
        obtain ⟨x11_4, x12_4, rfl, rfl, HA, HK4, HO_7, BK303, BK308, HB⟩ := hrel
        cases gk with
        | zero => exact absurd HA.out (by simp [tenementlaw15_writes.l1])
        | succ k4 =>
         have H := HA.out
         clear HA
         simp only [tenementlaw15_writes.l1] at H
         by_cases c21 : x12_4 < (x7_1.length : Int)
         ·rw [if_pos c21] at H
          have c21b0 : decide (x12_4 < (x7_1.length : Int)) = true := decide_eq_true c21
          clear c21
          by_cases c22 : x11_4 = true
          ·subst c22
           have H1 : (tenementlaw15_writes.l1 k4 l0 a1 a2 x7_1 x8_1 true (wrap64 (x12_4 + 1)) t304 t305 t306 t307) = some r := by rw [if_pos rfl] at H; exact H
           clear H
           have H := H1
           clear H1
           have H' := Aside0.mk H
           clear H
           obtain ⟨Ao23, co23, eo23⟩ := Kd.R_slice HO_7.out
           subst eo23
           go_wp2
           repeat (go_quiet (fail); try go_wp2)
           go_roundg k4
           case measure => have := HK1.out; have := HJ3.out; have := HJ9.out; have := HK4.out; omega
           case rel => exact ⟨(true), (wrap64 (x12_4 + 1)), (by first | rfl | (simp; done) | (simp [*]; done)), (by first | rfl | (simp; done) | (simp [*]; done)), H', ⟨by have := HK1.out; have := HJ3.out; have := HJ9.out; have := HK4.out; omega⟩, ⟨by (with_reducible repeat (first | apply Kd.R_alloc | apply Kd.R_drewN | apply Kd.R_drew)); exact HO_7.out⟩, ⟨by exact Kq_ BK303⟩, ⟨by exact Kq_ BK308⟩, ⟨K2a_ HB GE303 GE308⟩⟩
          replace c22 := Bool.eq_false_iff.mpr c22
          subst c22
          have H1 : (if 0 ≤ x12_4 then (if ((rd_T107 x7_1 x12_4).f0).toList = t304.toList then (tenementlaw15_writes.l1 k4 l0 a1 a2 x7_1 x8_1 (((rd_T107 x7_1 x12_4).f1).toList == t305.toList) (wrap64 (x12_4 + 1)) t304 t305 t306 t307) else (tenementlaw15_writes.l1 k4 l0 a1 a2 x7_1 x8_1 false (wrap64 (x12_4 + 1)) t304 t305 t306 t307)) else (none)) = some r := by rw [if_neg (show ¬ (false = true) by decide)] at H; exact H
          clear H
          have H := H1
          clear H1
          by_cases c24 : 0 ≤ x12_4
          rotate_left
          ·rw [if_neg c24] at H
           exact absurd H (by simp)
          rw [if_pos c24] at H
          have c24b0 : decide (0 ≤ x12_4) = true := decide_eq_true c24
          clear c24
          by_cases c25 : ((rd_T107 x7_1 x12_4).f0).toList = t304.toList
          rotate_left
          ·rw [if_neg c25] at H
           have c25b0 : (((rd_T107 x7_1 x12_4).f0).toList == t304.toList) = false := beq_eq_false_iff_ne.mpr c25
           have c25b1 : (((rd_T107 x7_1 x12_4).f0).toList != t304.toList) = true := bne_iff_ne.mpr c25
           have H' := Aside0.mk H
           clear H
           obtain ⟨Ao29, co29, eo29⟩ := Kd.R_slice HO_7.out
           subst eo29
           have p309 : 0 ≤ (x12_4 : Int) := of_decide_eq_true (by first | (with_reducible assumption) | assumption)
           have q309 : x12_4 < (x7_1.length : Int) := of_decide_eq_true (by first | (with_reducible assumption) | assumption)
           obtain ⟨ad309, e309, hx309_0, hx309_1, hx309_2, hx309_3⟩ := at_T107 (Kd.R_reads' HO_7.out).2.2 x12_4 p309 q309
           cases e309
           replace p309 := eq_true p309
           replace q309 := eq_true q309
           have hnb30 := NB308_303.out
           have hnc30 := NB303_308.out
           obtain ⟨hcz31_0, hcz31_1, hcz31_2, hcz31_3, hfz31_0, hfz31_1, hfz31_2, hfz31_3⟩ := Ke4_ BK308.out
           go_wp2
           repeat (go_quiet (fail); try go_wp2)
           go_roundg k4
           case measure => have := HK1.out; have := HJ3.out; have := HJ9.out; have := HK4.out; omega
           case rel => exact ⟨(false), (wrap64 (x12_4 + 1)), (by first | rfl | (simp; done) | (simp [*]; done)), (by first | rfl | (simp; done) | (simp [*]; done)), H', ⟨by have := HK1.out; have := HJ3.out; have := HJ9.out; have := HK4.out; omega⟩, ⟨by (with_reducible repeat (first | apply Kd.R_alloc | apply Kd.R_drewN | apply Kd.R_drew)); exact HO_7.out⟩, ⟨by exact Kq_ BK303⟩, ⟨by exact Kq_ BK308⟩, ⟨K2a_ HB GE303 GE308⟩⟩
          rw [if_pos c25] at H
          have c25b0 : (((rd_T107 x7_1 x12_4).f0).toList == t304.toList) = true := beq_iff_eq.mpr c25
          have c25b1 : (((rd_T107 x7_1 x12_4).f0).toList != t304.toList) = false := bne_eq_false_iff_eq.mpr c25
          clear c25
          have H' := Aside0.mk H
          clear H
          obtain ⟨Ao26, co26, eo26⟩ := Kd.R_slice HO_7.out
          subst eo26
          have p309 : 0 ≤ (x12_4 : Int) := of_decide_eq_true (by first | (with_reducible assumption) | assumption)
          have q309 : x12_4 < (x7_1.length : Int) := of_decide_eq_true (by first | (with_reducible assumption) | assumption)
          obtain ⟨ad309, e309, hx309_0, hx309_1, hx309_2, hx309_3⟩ := at_T107 (Kd.R_reads' HO_7.out).2.2 x12_4 p309 q309
          cases e309
          replace p309 := eq_true p309
          replace q309 := eq_true q309
          have hnb27 := NB308_303.out
          have hnc27 := NB303_308.out
          obtain ⟨hcz28_0, hcz28_1, hcz28_2, hcz28_3, hfz28_0, hfz28_1, hfz28_2, hfz28_3⟩ := Ke4_ BK308.out
          have p310 : 0 ≤ (x12_4 : Int) := of_decide_eq_true (by first | (with_reducible assumption) | assumption)
          have q310 : x12_4 < (x7_1.length : Int) := of_decide_eq_true (by first | (with_reducible assumption) | assumption)
          obtain ⟨ad310, e310, hx310_0, hx310_1, hx310_2, hx310_3⟩ := at_T107 (Kd.R_reads' HO_7.out).2.2 x12_4 p310 q310
          obtain rfl : ad309 = ad310 := (by injection e310)
          replace p310 := eq_true p310
          replace q310 := eq_true q310
          go_wp2
          repeat (go_quiet (fail); try go_wp2)
          go_roundg k4
          case measure => have := HK1.out; have := HJ3.out; have := HJ9.out; have := HK4.out; omega
          case rel => exact ⟨((((rd_T107 x7_1 x12_4).f1).toList == t305.toList)), (wrap64 (x12_4 + 1)), (by first | rfl | (simp; done) | (simp [*]; done)), (by first | rfl | (simp; done) | (simp [*]; done)), H', ⟨by have := HK1.out; have := HJ3.out; have := HJ9.out; have := HK4.out; omega⟩, ⟨by (with_reducible repeat (first | apply Kd.R_alloc | apply Kd.R_drewN | apply Kd.R_drew)); exact HO_7.out⟩, ⟨by exact Kq_ BK303⟩, ⟨by exact Kq_ BK308⟩, ⟨K2a_ HB GE303 GE308⟩⟩
         rw [if_neg c21] at H
         have c21b0 : decide (x12_4 < (x7_1.length : Int)) = false := decide_eq_false c21
         clear c21
         by_cases c32 : a2 = true
         rotate_left
         ·replace c32 := Bool.eq_false_iff.mpr c32
          subst c32
          have H1 : (if x7_1.length < 2513169434916 then (tenementlaw15_writes.l0 k4 l0 a1 false (x7_1 ++ [(⟨t304, t305, t306, t307⟩ : S107)]) (wrap64 (x8_1 + 1))) else (none)) = some r := by rw [if_neg (show ¬ (false = true) by decide)] at H; exact H
          clear H
          have H := H1
          clear H1
          by_cases c40 : x7_1.length < 2513169434916
          rotate_left
          ·rw [if_neg c40] at H
           exact absurd H (by simp)
          rw [if_pos c40] at H
          have LMc40 := Aside0.mk c40
          clear c40
          obtain ⟨y314, hy314⟩ : ∃ y_ : List (S107), y_ = (x7_1 ++ [(⟨t304, t305, t306, t307⟩ : S107)]) := ⟨_, rfl⟩
          replace H : (tenementlaw15_writes.l0 k4 l0 a1 false y314 (wrap64 (x8_1 + 1))) = some r := by first | (rw [hy314]; with_reducible exact H) | (have H2_ := (Option.bind_some _ _).symm.trans H; rw [hy314]; with_reducible exact H2_) | (have H2_ := (Option.bind_some _ _).symm.trans H; with_reducible exact H2_) | with_reducible exact H | (rw [hy314]; exact H) | exact H
          have Ny314 := Aside0.mk hy314
          clear hy314
          have H' := Aside0.mk H
          clear H
          obtain ⟨Ao41, co41, eo41⟩ := Kd.R_slice HO_7.out
          subst eo41
          have hnb42 := NB308_303.out
          have hnc42 := NB303_308.out
          obtain ⟨hcz43_0, hcz43_1, hcz43_2, hcz43_3, hfz43_0, hfz43_1, hfz43_2, hfz43_3⟩ := Ke4_ BK308.out
          go_wp2_with (first | ((with_reducible refine gate_builtin (b := .append) (xs := #[.tmp 66, .tmp 68]) rfl ?_); at_builtin; refine Kd.R_append k107 (w0 := w) w.heap.size rfl (.tmp 66) (.tmp 68) 31 107 (.agg #[(.string ⟨#[]⟩), (.string ⟨#[]⟩), (.string ⟨#[]⟩), (.bool false)]) 56 rfl Try.underlying31 info107 rfl (by decide) (by omega) (.slice Ao41 x7_1.length co41) x7_1 (⟨t304, t305, t306, t307⟩ : S107) [.string t304, .string t305, .string t306, .bool t307] (fun k_ => k_ ≠ gb308) (fun _ => False) rfl rfl ?aP (fun _ hk => hk.elim) ?aF ?aO ?aB ?aS ?aL ?_; (case aP => exact k107_mkM _ _ _ (⟨t304, t305, t306, t307⟩ : S107)); (case aB => exact (K2a_ HB GE303 GE308)); (case aF => exact (fun k_ hk => Kd.freshB (g := gb308) (o := .cells #[.string t304, .string t305, .string t306, .bool t307] 107 (0, 0)) (Kq_ BK308) k_ hk)); (case aO => exact (Ku_ HO_7)); (case aS => exact (below_size (K2a_ HB GE303 GE308))); (case aL => have := LMc40.out; omega); intro v315 w44 ho hb hg hat; rw [← Ny314.out] at ho; have HO316 := Aside0.mk (ho); replace BK303 := Aside0.mk (blk_grown (g := gb303) (o := .cells #[.string ((rd_T159 l0 x8_1).f0.f0), .string ((rd_T159 l0 x8_1).f0.f1), .string ((rd_T159 l0 x8_1).f0.f2), .bool ((rd_T159 l0 x8_1).f0.f3), .bool x104_9, .int .u8 ((rd_T159 l0 x8_1).f2)] 159 (0, 0)) (Kq_ BK303) hg (Kd.R_ne HO_7.out BK303.out (by decide))); replace BK308 := Aside0.mk (blk_grown (g := gb308) (o := .cells #[.string t304, .string t305, .string t306, .bool t307] 107 (0, 0)) (Kq_ BK308) hg (Kd.R_away HO_7.out (fun _ hk => hk))); replace HB := Aside0.mk (hb); clear HO_7; clear ho hb hg hat))
          repeat (go_quiet (first | ((with_reducible refine gate_builtin (b := .append) (xs := #[.tmp 66, .tmp 68]) rfl ?_); at_builtin; refine Kd.R_append k107 (w0 := w) w.heap.size rfl (.tmp 66) (.tmp 68) 31 107 (.agg #[(.string ⟨#[]⟩), (.string ⟨#[]⟩), (.string ⟨#[]⟩), (.bool false)]) 56 rfl Try.underlying31 info107 rfl (by decide) (by omega) (.slice Ao41 x7_1.length co41) x7_1 (⟨t304, t305, t306, t307⟩ : S107) [.string t304, .string t305, .string t306, .bool t307] (fun k_ => k_ ≠ gb308) (fun _ => False) rfl rfl ?aP (fun _ hk => hk.elim) ?aF ?aO ?aB ?aS ?aL ?_; (case aP => exact k107_mkM _ _ _ (⟨t304, t305, t306, t307⟩ : S107)); (case aB => exact (K2a_ HB GE303 GE308)); (case aF => exact (fun k_ hk => Kd.freshB (g := gb308) (o := .cells #[.string t304, .string t305, .string t306, .bool t307] 107 (0, 0)) (Kq_ BK308) k_ hk)); (case aO => exact (Ku_ HO_7)); (case aS => exact (below_size (K2a_ HB GE303 GE308))); (case aL => have := LMc40.out; omega); intro v315 w44 ho hb hg hat; rw [← Ny314.out] at ho; have HO316 := Aside0.mk (ho); replace BK303 := Aside0.mk (blk_grown (g := gb303) (o := .cells #[.string ((rd_T159 l0 x8_1).f0.f0), .string ((rd_T159 l0 x8_1).f0.f1), .string ((rd_T159 l0 x8_1).f0.f2), .bool ((rd_T159 l0 x8_1).f0.f3), .bool x104_9, .int .u8 ((rd_T159 l0 x8_1).f2)] 159 (0, 0)) (Kq_ BK303) hg (Kd.R_ne HO_7.out BK303.out (by decide))); replace BK308 := Aside0.mk (blk_grown (g := gb308) (o := .cells #[.string t304, .string t305, .string t306, .bool t307] 107 (0, 0)) (Kq_ BK308) hg (Kd.R_away HO_7.out (fun _ hk => hk))); replace HB := Aside0.mk (hb); clear HO_7; clear ho hb hg hat)); try go_wp2_with (first | ((with_reducible refine gate_builtin (b := .append) (xs := #[.tmp 66, .tmp 68]) rfl ?_); at_builtin; refine Kd.R_append k107 (w0 := w) w.heap.size rfl (.tmp 66) (.tmp 68) 31 107 (.agg #[(.string ⟨#[]⟩), (.string ⟨#[]⟩), (.string ⟨#[]⟩), (.bool false)]) 56 rfl Try.underlying31 info107 rfl (by decide) (by omega) (.slice Ao41 x7_1.length co41) x7_1 (⟨t304, t305, t306, t307⟩ : S107) [.string t304, .string t305, .string t306, .bool t307] (fun k_ => k_ ≠ gb308) (fun _ => False) rfl rfl ?aP (fun _ hk => hk.elim) ?aF ?aO ?aB ?aS ?aL ?_; (case aP => exact k107_mkM _ _ _ (⟨t304, t305, t306, t307⟩ : S107)); (case aB => exact (K2a_ HB GE303 GE308)); (case aF => exact (fun k_ hk => Kd.freshB (g := gb308) (o := .cells #[.string t304, .string t305, .string t306, .bool t307] 107 (0, 0)) (Kq_ BK308) k_ hk)); (case aO => exact (Ku_ HO_7)); (case aS => exact (below_size (K2a_ HB GE303 GE308))); (case aL => have := LMc40.out; omega); intro v315 w44 ho hb hg hat; rw [← Ny314.out] at ho; have HO316 := Aside0.mk (ho); replace BK303 := Aside0.mk (blk_grown (g := gb303) (o := .cells #[.string ((rd_T159 l0 x8_1).f0.f0), .string ((rd_T159 l0 x8_1).f0.f1), .string ((rd_T159 l0 x8_1).f0.f2), .bool ((rd_T159 l0 x8_1).f0.f3), .bool x104_9, .int .u8 ((rd_T159 l0 x8_1).f2)] 159 (0, 0)) (Kq_ BK303) hg (Kd.R_ne HO_7.out BK303.out (by decide))); replace BK308 := Aside0.mk (blk_grown (g := gb308) (o := .cells #[.string t304, .string t305, .string t306, .bool t307] 107 (0, 0)) (Kq_ BK308) hg (Kd.R_away HO_7.out (fun _ hk => hk))); replace HB := Aside0.mk (hb); clear HO_7; clear ho hb hg hat)))
          go_roundg k4
          case measure => have := HK1.out; have := HJ3.out; have := HJ9.out; have := HK4.out; omega
          case rel => exact ⟨(y314), (wrap64 (x8_1 + 1)), (by first | rfl | (simp; done) | (simp [*]; done)), H', ⟨by have := HK1.out; have := HJ3.out; have := HJ9.out; have := HK4.out; omega⟩, ⟨by (with_reducible repeat (first | apply Kd.R_alloc | apply Kd.R_drewN | apply Kd.R_drew)); exact Kd.R_mono HO316.out (fun _ hk => trivial)⟩, ⟨K2a_ HB GE303 GE308⟩⟩
         subst c32
         have H1 : (if x11_4 = true then (tenementlaw15_writes.l0 k4 l0 a1 true x7_1 (wrap64 (x8_1 + 1))) else (if x7_1.length < 2513169434916 then (tenementlaw15_writes.l0 k4 l0 a1 true (x7_1 ++ [(⟨t304, t305, t306, t307⟩ : S107)]) (wrap64 (x8_1 + 1))) else (none))) = some r := by rw [if_pos rfl] at H; exact H
         clear H
         have H := H1
         clear H1
         by_cases c33 : x11_4 = true
         ·subst c33
          have H1 : (tenementlaw15_writes.l0 k4 l0 a1 true x7_1 (wrap64 (x8_1 + 1))) = some r := by rw [if_pos rfl] at H; exact H
          clear H
          have H := H1
          clear H1
          have H' := Aside0.mk H
          clear H
          obtain ⟨Ao34, co34, eo34⟩ := Kd.R_slice HO_7.out
          subst eo34
          go_wp2
          repeat (go_quiet (fail); try go_wp2)
          go_roundg k4
          case measure => have := HK1.out; have := HJ3.out; have := HJ9.out; have := HK4.out; omega
          case rel => exact ⟨(x7_1), (wrap64 (x8_1 + 1)), (by first | rfl | (simp; done) | (simp [*]; done)), H', ⟨by have := HK1.out; have := HJ3.out; have := HJ9.out; have := HK4.out; omega⟩, ⟨by (with_reducible repeat (first | apply Kd.R_alloc | apply Kd.R_drewN | apply Kd.R_drew)); exact Kd.R_mono HO_7.out (fun _ hk => trivial)⟩, ⟨K2a_ HB GE303 GE308⟩⟩
         replace c33 := Bool.eq_false_iff.mpr c33
         subst c33
         have H1 : (if x7_1.length < 2513169434916 then (tenementlaw15_writes.l0 k4 l0 a1 true (x7_1 ++ [(⟨t304, t305, t306, t307⟩ : S107)]) (wrap64 (x8_1 + 1))) else (none)) = some r := by rw [if_neg (show ¬ (false = true) by decide)] at H; exact H
         clear H
         have H := H1
         clear H1
         by_cases c35 : x7_1.length < 2513169434916
         rotate_left
         ·rw [if_neg c35] at H
          exact absurd H (by simp)
         rw [if_pos c35] at H
         have LMc35 := Aside0.mk c35
         clear c35
         obtain ⟨y311, hy311⟩ : ∃ y_ : List (S107), y_ = (x7_1 ++ [(⟨t304, t305, t306, t307⟩ : S107)]) := ⟨_, rfl⟩
         replace H : (tenementlaw15_writes.l0 k4 l0 a1 true y311 (wrap64 (x8_1 + 1))) = some r := by first | (rw [hy311]; with_reducible exact H) | (have H2_ := (Option.bind_some _ _).symm.trans H; rw [hy311]; with_reducible exact H2_) | (have H2_ := (Option.bind_some _ _).symm.trans H; with_reducible exact H2_) | with_reducible exact H | (rw [hy311]; exact H) | exact H
         have Ny311 := Aside0.mk hy311
         clear hy311
         have H' := Aside0.mk H
         clear H
         obtain ⟨Ao36, co36, eo36⟩ := Kd.R_slice HO_7.out
         subst eo36
         have hnb37 := NB308_303.out
         have hnc37 := NB303_308.out
         obtain ⟨hcz38_0, hcz38_1, hcz38_2, hcz38_3, hfz38_0, hfz38_1, hfz38_2, hfz38_3⟩ := Ke4_ BK308.out
         go_wp2_with (first | ((with_reducible refine gate_builtin (b := .append) (xs := #[.tmp 66, .tmp 68]) rfl ?_); at_builtin; refine Kd.R_append k107 (w0 := w) w.heap.size rfl (.tmp 66) (.tmp 68) 31 107 (.agg #[(.string ⟨#[]⟩), (.string ⟨#[]⟩), (.string ⟨#[]⟩), (.bool false)]) 56 rfl Try.underlying31 info107 rfl (by decide) (by omega) (.slice Ao36 x7_1.length co36) x7_1 (⟨t304, t305, t306, t307⟩ : S107) [.string t304, .string t305, .string t306, .bool t307] (fun k_ => k_ ≠ gb308) (fun _ => False) rfl rfl ?aP (fun _ hk => hk.elim) ?aF ?aO ?aB ?aS ?aL ?_; (case aP => exact k107_mkM _ _ _ (⟨t304, t305, t306, t307⟩ : S107)); (case aB => exact (K2a_ HB GE303 GE308)); (case aF => exact (fun k_ hk => Kd.freshB (g := gb308) (o := .cells #[.string t304, .string t305, .string t306, .bool t307] 107 (0, 0)) (Kq_ BK308) k_ hk)); (case aO => exact (Ku_ HO_7)); (case aS => exact (below_size (K2a_ HB GE303 GE308))); (case aL => have := LMc35.out; omega); intro v312 w39 ho hb hg hat; rw [← Ny311.out] at ho; have HO313 := Aside0.mk (ho); replace BK303 := Aside0.mk (blk_grown (g := gb303) (o := .cells #[.string ((rd_T159 l0 x8_1).f0.f0), .string ((rd_T159 l0 x8_1).f0.f1), .string ((rd_T159 l0 x8_1).f0.f2), .bool ((rd_T159 l0 x8_1).f0.f3), .bool x104_9, .int .u8 ((rd_T159 l0 x8_1).f2)] 159 (0, 0)) (Kq_ BK303) hg (Kd.R_ne HO_7.out BK303.out (by decide))); replace BK308 := Aside0.mk (blk_grown (g := gb308) (o := .cells #[.string t304, .string t305, .string t306, .bool t307] 107 (0, 0)) (Kq_ BK308) hg (Kd.R_away HO_7.out (fun _ hk => hk))); replace HB := Aside0.mk (hb); clear HO_7; clear ho hb hg hat))
         repeat (go_quiet (first | ((with_reducible refine gate_builtin (b := .append) (xs := #[.tmp 66, .tmp 68]) rfl ?_); at_builtin; refine Kd.R_append k107 (w0 := w) w.heap.size rfl (.tmp 66) (.tmp 68) 31 107 (.agg #[(.string ⟨#[]⟩), (.string ⟨#[]⟩), (.string ⟨#[]⟩), (.bool false)]) 56 rfl Try.underlying31 info107 rfl (by decide) (by omega) (.slice Ao36 x7_1.length co36) x7_1 (⟨t304, t305, t306, t307⟩ : S107) [.string t304, .string t305, .string t306, .bool t307] (fun k_ => k_ ≠ gb308) (fun _ => False) rfl rfl ?aP (fun _ hk => hk.elim) ?aF ?aO ?aB ?aS ?aL ?_; (case aP => exact k107_mkM _ _ _ (⟨t304, t305, t306, t307⟩ : S107)); (case aB => exact (K2a_ HB GE303 GE308)); (case aF => exact (fun k_ hk => Kd.freshB (g := gb308) (o := .cells #[.string t304, .string t305, .string t306, .bool t307] 107 (0, 0)) (Kq_ BK308) k_ hk)); (case aO => exact (Ku_ HO_7)); (case aS => exact (below_size (K2a_ HB GE303 GE308))); (case aL => have := LMc35.out; omega); intro v312 w39 ho hb hg hat; rw [← Ny311.out] at ho; have HO313 := Aside0.mk (ho); replace BK303 := Aside0.mk (blk_grown (g := gb303) (o := .cells #[.string ((rd_T159 l0 x8_1).f0.f0), .string ((rd_T159 l0 x8_1).f0.f1), .string ((rd_T159 l0 x8_1).f0.f2), .bool ((rd_T159 l0 x8_1).f0.f3), .bool x104_9, .int .u8 ((rd_T159 l0 x8_1).f2)] 159 (0, 0)) (Kq_ BK303) hg (Kd.R_ne HO_7.out BK303.out (by decide))); replace BK308 := Aside0.mk (blk_grown (g := gb308) (o := .cells #[.string t304, .string t305, .string t306, .bool t307] 107 (0, 0)) (Kq_ BK308) hg (Kd.R_away HO_7.out (fun _ hk => hk))); replace HB := Aside0.mk (hb); clear HO_7; clear ho hb hg hat)); try go_wp2_with (first | ((with_reducible refine gate_builtin (b := .append) (xs := #[.tmp 66, .tmp 68]) rfl ?_); at_builtin; refine Kd.R_append k107 (w0 := w) w.heap.size rfl (.tmp 66) (.tmp 68) 31 107 (.agg #[(.string ⟨#[]⟩), (.string ⟨#[]⟩), (.string ⟨#[]⟩), (.bool false)]) 56 rfl Try.underlying31 info107 rfl (by decide) (by omega) (.slice Ao36 x7_1.length co36) x7_1 (⟨t304, t305, t306, t307⟩ : S107) [.string t304, .string t305, .string t306, .bool t307] (fun k_ => k_ ≠ gb308) (fun _ => False) rfl rfl ?aP (fun _ hk => hk.elim) ?aF ?aO ?aB ?aS ?aL ?_; (case aP => exact k107_mkM _ _ _ (⟨t304, t305, t306, t307⟩ : S107)); (case aB => exact (K2a_ HB GE303 GE308)); (case aF => exact (fun k_ hk => Kd.freshB (g := gb308) (o := .cells #[.string t304, .string t305, .string t306, .bool t307] 107 (0, 0)) (Kq_ BK308) k_ hk)); (case aO => exact (Ku_ HO_7)); (case aS => exact (below_size (K2a_ HB GE303 GE308))); (case aL => have := LMc35.out; omega); intro v312 w39 ho hb hg hat; rw [← Ny311.out] at ho; have HO313 := Aside0.mk (ho); replace BK303 := Aside0.mk (blk_grown (g := gb303) (o := .cells #[.string ((rd_T159 l0 x8_1).f0.f0), .string ((rd_T159 l0 x8_1).f0.f1), .string ((rd_T159 l0 x8_1).f0.f2), .bool ((rd_T159 l0 x8_1).f0.f3), .bool x104_9, .int .u8 ((rd_T159 l0 x8_1).f2)] 159 (0, 0)) (Kq_ BK303) hg (Kd.R_ne HO_7.out BK303.out (by decide))); replace BK308 := Aside0.mk (blk_grown (g := gb308) (o := .cells #[.string t304, .string t305, .string t306, .bool t307] 107 (0, 0)) (Kq_ BK308) hg (Kd.R_away HO_7.out (fun _ hk => hk))); replace HB := Aside0.mk (hb); clear HO_7; clear ho hb hg hat)))
         go_roundg k4
         case measure => have := HK1.out; have := HJ3.out; have := HJ9.out; have := HK4.out; omega
         case rel => exact ⟨(y311), (wrap64 (x8_1 + 1)), (by first | rfl | (simp; done) | (simp [*]; done)), H', ⟨by have := HK1.out; have := HJ3.out; have := HJ9.out; have := HK4.out; omega⟩, ⟨by (with_reducible repeat (first | apply Kd.R_alloc | apply Kd.R_drewN | apply Kd.R_drew)); exact Kd.R_mono HO313.out (fun _ hk => trivial)⟩, ⟨K2a_ HB GE303 GE308⟩⟩
end Go.Proofs.Ytoagfdpgnfinhaa.Q
