import Derived.Test.YthjhkcebcgdeoaaGJudgeTells2
import Derived.Test.YthjhkcebcgdeoaaGJudgeTells6
namespace Go.Proofs.Ythjhkcebcgdeoaa.Q
open Go.RowKit Go.Proofs.YthjhkcebcgdeoaaW.PrintWords Go.Proofs.YthjhkcebcgdeoaaW.PrintLast Go.Proofs.YthjhkcebcgdeoaaW.PrintMore
attribute [local go_sem] max2_int min2_int max_two min_two max_three min_three max_four min_four   -- for this text's walks alone
set_option linter.unusedVariables false
set_option linter.unusedSimpArgs false
def tenementlaw22_refTxn.f (k : Nat) (a0_0 : Int) (a0_1 : Int) (a0_2 : Int) (a0_3 : Int) (a0_4 : Int) (l0_5 : List (S24)) : Option (Int × Int × Int × Int × Int × (List (S86))) := (tenementlaw22_refStamp.f a0_0 a0_1 a0_2 a0_3 a0_4).bind fun bt170 => ((tenementlaw22_refWrites.f k l0_5).bind fun t175 => (some (bt170.1, bt170.2.1, bt170.2.2.1, bt170.2.2.2.1, bt170.2.2.2.2, t175)))
theorem tenementlaw22_refTxn.mono : ∀ a0 a1 a2 a3 a4 a5 k, LeO (tenementlaw22_refTxn.f k a0 a1 a2 a3 a4 a5) (tenementlaw22_refTxn.f (k + 1) a0 a1 a2 a3 a4 a5) := by
 intro a0 a1 a2 a3 a4 a5 k
 unfold tenementlaw22_refTxn.f
 repeat' first
   | (with_reducible exact tenementlaw22_refWrites.mono _ _)
   | (with_reducible exact LeO.refl _)
   | (with_reducible exact LeO.none _)
   | (with_reducible refine LeO.ite ?_ ?_)
   | (with_reducible refine LeO.bind ?_ (fun _ => ?_))
   | exact tenementlaw22_refWrites.mono _ _
   | exact LeO.none _
   | refine LeO.ite ?_ ?_
   | refine LeO.bind ?_ (fun _ => ?_)
def tenementlaw22_refTxn.T1 : Bool × List (List Nat × List Nat) := (true, [([], []), ([0], [0]), ([1], [1]), ([], []), ([3], [3]), ([4, 2], [4]), ([2, 5], [2, 5]), ([6, 5, 0, 1, 2, 3, 4, 5, 6], [6])])
def tenementlaw22_refTxn.B1 : List Nat := [0, 1, 3, 0, 8, 31, 63, 127]
theorem tenementlaw22_refTxn.tab1 : rtab .any (opsOf Try.f32 1) = tenementlaw22_refTxn.T1 := by kernel_rfl
theorem tenementlaw22_refTxn.bits1 : waitsOk tenementlaw22_refTxn.T1.2 tenementlaw22_refTxn.B1 = true := by kernel_rfl
set_option maxHeartbeats 8000000 in
set_option maxRecDepth 100000 in
theorem tenementlaw22_refTxn.calls (k : Nat) (a0_0 : Int) (a0_1 : Int) (a0_2 : Int) (a0_3 : Int) (a0_4 : Int) (A0_5 : Option Addr) (c0_5 : Nat) (l0_5 : List (S24)) (r1 : Int) (r2 : Int) (r3 : Int) (r4 : Int) (r5 : Int) (r6 : List (S86)) (w : World) (hr0_5 : Kd.C k24 w A0_5 l0_5.length l0_5) (hc0_5 : l0_5.length ≤ c0_5) (h : tenementlaw22_refTxn.f k a0_0 a0_1 a0_2 a0_3 a0_4 l0_5 = some (r1, r2, r3, r4, r5, r6)) :
  Calls Try.prog 32 #[.agg #[.int .u64 a0_0, .int .u64 a0_1, .int .u64 a0_2, .int .u64 a0_3, .int .i64 a0_4, .slice A0_5 l0_5.length c0_5]] w fun e w' => ∃ v5_ : Value, e = .returned (.agg #[.int .u64 r1, .int .u64 r2, .int .u64 r3, .int .u64 r4, .int .i64 r5, v5_]) ∧ Kd.R k86 86 w' w.heap.size (fun _ => True) v5_ r6 ∧ Below w.heap.size w w' := by
 have hu64 := Try.underlying64
 have hu81 := Try.underlying81
 have hu56 := Try.underlying56
 have HR0_5 := Aside0.mk hr0_5
 have HC0_5 := Aside0.mk hc0_5
 clear hr0_5 hc0_5
 have HB := Aside0.mk (Below.refl w.heap.size w)
 have H : ((tenementlaw22_refStamp.f a0_0 a0_1 a0_2 a0_3 a0_4).bind fun bt170 => ((tenementlaw22_refWrites.f k l0_5).bind fun t175 => (some (bt170.1, bt170.2.1, bt170.2.2.1, bt170.2.2.2.1, bt170.2.2.2.2, t175)))) = some (r1, r2, r3, r4, r5, r6) := h
 clear h
 replace H := Option.bind_eq_some_iff.mp H
 obtain ⟨⟨t170, t171, t172, t173, t174⟩, A20, H⟩ := H
 replace H : ((tenementlaw22_refWrites.f k l0_5).bind fun t175 => (some (t170, t171, t172, t173, t174, t175))) = some (r1, r2, r3, r4, r5, r6) := H
 have A2 := Aside0.mk A20
 clear A20
 replace H := Option.bind_eq_some_iff.mp H
 obtain ⟨t175, A30, H⟩ := H
 replace H : (some (t170, t171, t172, t173, t174, t175)) = some (r1, r2, r3, r4, r5, r6) := H
 have A3 := Aside0.mk A30
 clear A30
 simp only [Option.some.injEq, Prod.mk.injEq] at H
 obtain ⟨rfl, rfl, rfl, rfl, rfl, rfl⟩ := H
 go_enter Try.func32, Try.ntmps32
 try go_wp2_with (first | ((with_reducible refine gate_dst (N := 1) rfl ?_); refine Ka_ 1 #[.int .u64 a0_0, .int .u64 a0_1, .int .u64 a0_2, .int .u64 a0_3, .int .i64 a0_4, .slice A0_5 l0_5.length c0_5] 64 ?_; intro gb168 hg w4 hbox hb; have BK168 := Aside0.mk (hbox); have GW168 := Kw_ HB hg; have GE168 := GW168; replace HB := Ks_ HB hb; clear hb hbox hg) | ((with_reducible refine gate_dst (N := 2) rfl ?_); refine Ka_ 2 #[.int .u64 0, .int .u64 0, .int .u64 0, .int .u64 0, .int .i64 0, .slice none 0 0] 81 ?_; intro gb169 hg w5 hbox hb; have BK169 := Aside0.mk (hbox); have GW169 := Kw_ HB hg; have GE169 := GW169; have NB168_169 := Kl_ BK168 hg; have NB169_168 := Kr_ BK168 hg; replace BK168 := Kb_ BK168 hb; replace HB := Ks_ HB hb; clear hb hbox hg))
 replace BK168 := Kd_ BK168
 replace BK169 := Kd_ BK169
 replace HB := Aside0.mk (below_drew1 HB.out)
 refine start_ (n := 8) (S := fun w' => w'.cell? ⟨gb168, 0, none⟩ = some (.int .u64 a0_0) ∧ w'.cell? ⟨gb168, 1, none⟩ = some (.int .u64 a0_1) ∧ w'.cell? ⟨gb168, 2, none⟩ = some (.int .u64 a0_2) ∧ w'.cell? ⟨gb168, 3, none⟩ = some (.int .u64 a0_3) ∧ w'.cell? ⟨gb168, 4, none⟩ = some (.int .i64 a0_4) ∧ w'.cell? ⟨gb168, 5, none⟩ = some (.slice A0_5 l0_5.length c0_5)) (ds := []) (mB_ 8 0) (by kernel_rfl) rfl rfl (Kc6_ BK168.out) (fun hHeld => ?_); refine with_tabW tenementlaw22_refTxn.tab1 tenementlaw22_refTxn.bits1 (fun HT_ HW_ => ?_)
 generalize w5.drew = w6 at BK168 BK169 HB hHeld ⊢
 refine Kp_ 0 3 (mB_ 8 1) (any_of HT_.out (by kernel_rfl)) ?_
 refine Kp_ 3 6 (mB_ 8 9) (any_of HT_.out (by kernel_rfl)) ?_
 refine Ko_ 1 4 (mB_ 8 11) (take_ofW HT_.out HW_.out (by kernel_rfl)) hHeld ?_
 refine Ko_ 4 7 (mB_ 8 27) (take_ofW HT_.out HW_.out (by kernel_rfl)) hHeld ?_
 refine one_ (i := 2) (N := some 5) (mB_ 8 31) rfl rfl (one_of HT_.out (by kernel_rfl)) (by decide) (fun K hK => ?_)
 refine goes_ Try.func62 (by kernel_rfl) rfl #[.agg #[.int .u64 a0_0, .int .u64 a0_1, .int .u64 a0_2, .int .u64 a0_3, .int .i64 a0_4]] (by rfl) rfl rfl (by (try simp only [List.map_toArray, List.map_cons, List.map_nil]); first | done | rfl | (simp only [List.length_drop, List.length_take]; rfl)) ?_
 with_reducible refine (tenementlaw22_refStamp.calls a0_0 a0_1 a0_2 a0_3 a0_4 t170 t171 t172 t173 t174 _ A2.out).mono ?_
 rintro e w7 ⟨rfl, hb⟩
 refine ⟨_, rfl, ?_⟩
 replace BK168 := Kb_ BK168 hb
 replace BK169 := Kb_ BK169 hb
 replace HB := Ks_ HB hb
 (try clear hb)
 (try clear hb2)
 (try clear hk)
 (try clear hi)
 refine hK.out _ _ (Kc6_ BK168.out) (fun hHeld => ?_)
 clear hK K
 refine Kn_ 5 ?_
 refine one_ (i := 5) (N := some 8) (mB_ 8 63) rfl rfl (one_of HT_.out (by kernel_rfl)) (by decide) (fun K hK => ?_)
 refine goes_ Try.func63 (by kernel_rfl) rfl #[.slice A0_5 l0_5.length c0_5] (by rfl) rfl rfl (by (try simp only [List.map_toArray, List.map_cons, List.map_nil]); first | done | rfl | (simp only [List.length_drop, List.length_take]; rfl)) ?_
 with_reducible refine (tenementlaw22_refWrites.calls k _ _ l0_5 t175 _ ?side1 ?side2 A3.out).mono ?_
 (case side1 => repeat (first | exact (Kd.C_below HR0_5.out HB.out) | (with_reducible refine Kd.C_alloc ?_ _) | (with_reducible refine Kd.C_drewN ?_ _) | (with_reducible refine Kd.C_drew ?_)))
 (case side2 => exact HC0_5.out)
 rintro e w8 ⟨v176, rfl, ho0, hb⟩
 refine ⟨_, rfl, ?_⟩
 have HO177 := Aside0.mk (Kd.R_lower ho0 (below_size (K2a_ HB GE168 GE169)))
 replace BK168 := Kb_ BK168 hb
 replace BK169 := Kb_ BK169 hb
 replace HB := Ks_ HB hb
 (try clear hb)
 (try clear hb2)
 (try clear hk)
 (try clear hi)
 (try clear ho0)
 obtain ⟨Ao9, co9, eo9⟩ := Kd.R_slice HO177.out
 (first | subst eo9 | (injection eo9 with f1_ f2_ f3_; have f4_ := f1_.symm; have f5_ := f3_.symm; clear f1_ f2_ f3_; subst f4_; subst f5_))
 refine hK.out _ _ (Kc6_ BK168.out) (fun hHeld => ?_)
 clear hK K
 refine Kn_ 8 ?_
 refine Kp_ 6 9 (mB_ 8 127) (any_of HT_.out (by kernel_rfl)) ?_
 refine one_ (i := 7) (N := none) (mB_ 8 255) rfl rfl (one_of HT_.out (by kernel_rfl)) (by decide) (fun K hK => ?_)
 have hs10 : w8.cell? ⟨gb169, 0, none⟩ = some (.int .u64 0) := (blk_cell BK169.out 0).trans rfl
 have hfs10 := blk_frozen BK169.out 0
 have hns10_0 := NB168_169.out
 have hms10_0 := NB169_168.out
 have hs11 : w8.cell? ⟨gb169, 1, none⟩ = some (.int .u64 0) := (blk_cell BK169.out 1).trans rfl
 have hfs11 := blk_frozen BK169.out 1
 have hns11_0 := NB168_169.out
 have hms11_0 := NB169_168.out
 have hs12 : w8.cell? ⟨gb169, 2, none⟩ = some (.int .u64 0) := (blk_cell BK169.out 2).trans rfl
 have hfs12 := blk_frozen BK169.out 2
 have hns12_0 := NB168_169.out
 have hms12_0 := NB169_168.out
 have hs13 : w8.cell? ⟨gb169, 3, none⟩ = some (.int .u64 0) := (blk_cell BK169.out 3).trans rfl
 have hfs13 := blk_frozen BK169.out 3
 have hns13_0 := NB168_169.out
 have hms13_0 := NB169_168.out
 have hs14 : w8.cell? ⟨gb169, 4, none⟩ = some (.int .i64 0) := (blk_cell BK169.out 4).trans rfl
 have hfs14 := blk_frozen BK169.out 4
 have hns14_0 := NB168_169.out
 have hms14_0 := NB169_168.out
 have hs15 : w8.cell? ⟨gb169, 5, none⟩ = some (.slice none 0 0) := (blk_cell BK169.out 5).trans rfl
 have hfs15 := blk_frozen BK169.out 5
 have hns15_0 := NB168_169.out
 have hms15_0 := NB169_168.out
 refine skip_ (w1 := ?_) (by rfl) rfl ?_ ?_
 rotate_left
 ·go_simp
  rfl
 refine hK.out _ _ ⟨(Kj_ NB168_169 ((Kj_ NB168_169 ((Kj_ NB168_169 ((Kj_ NB168_169 ((Kj_ NB168_169 ((Kj_ NB168_169 (hHeld.1)))))))))))), (Kj_ NB168_169 ((Kj_ NB168_169 ((Kj_ NB168_169 ((Kj_ NB168_169 ((Kj_ NB168_169 ((Kj_ NB168_169 (hHeld.2.1)))))))))))), (Kj_ NB168_169 ((Kj_ NB168_169 ((Kj_ NB168_169 ((Kj_ NB168_169 ((Kj_ NB168_169 ((Kj_ NB168_169 (hHeld.2.2.1)))))))))))), (Kj_ NB168_169 ((Kj_ NB168_169 ((Kj_ NB168_169 ((Kj_ NB168_169 ((Kj_ NB168_169 ((Kj_ NB168_169 (hHeld.2.2.2.1)))))))))))), (Kj_ NB168_169 ((Kj_ NB168_169 ((Kj_ NB168_169 ((Kj_ NB168_169 ((Kj_ NB168_169 ((Kj_ NB168_169 (hHeld.2.2.2.2.1)))))))))))), (Kj_ NB168_169 ((Kj_ NB168_169 ((Kj_ NB168_169 ((Kj_ NB168_169 ((Kj_ NB168_169 ((Kj_ NB168_169 (hHeld.2.2.2.2.2))))))))))))⟩ (fun hHeld => ?_)
 clear hK K
 refine done_ (done_of HT_.out (by kernel_rfl)) ?_
 try go_wp2
 refine bodyPost_ret (results_cell_row rfl _ _ gb169 81 #[.int .u64 t170, .int .u64 t171, .int .u64 t172, .int .u64 t173, .int .i64 t174, .slice Ao9 t175.length co9] (0, 0) _ rfl (by refine Kv_ ?_; refine blk_put (cs := #[.int .u64 t170, .int .u64 t171, .int .u64 t172, .int .u64 t173, .int .i64 t174, .slice none 0 0]) ?_ 5 _ rfl; refine Kv_ ?_; refine blk_put (cs := #[.int .u64 t170, .int .u64 t171, .int .u64 t172, .int .u64 t173, .int .i64 0, .slice none 0 0]) ?_ 4 _ rfl; refine Kv_ ?_; refine blk_put (cs := #[.int .u64 t170, .int .u64 t171, .int .u64 t172, .int .u64 0, .int .i64 0, .slice none 0 0]) ?_ 3 _ rfl; refine Kv_ ?_; refine blk_put (cs := #[.int .u64 t170, .int .u64 t171, .int .u64 0, .int .u64 0, .int .i64 0, .slice none 0 0]) ?_ 2 _ rfl; refine Kv_ ?_; refine blk_put (cs := #[.int .u64 t170, .int .u64 0, .int .u64 0, .int .u64 0, .int .i64 0, .slice none 0 0]) ?_ 1 _ rfl; refine Kv_ ?_; refine blk_put (cs := #[.int .u64 0, .int .u64 0, .int .u64 0, .int .u64 0, .int .i64 0, .slice none 0 0]) ?_ 0 _ rfl; exact Kq_ BK169) Try.underlying81 rfl (by kernel_rfl)) rfl ?_
 exact ⟨_, by first | rfl | (simp [errW_none, errW_some] <;> rfl) | (simp [*, errW_none, errW_some] <;> rfl), by (with_reducible repeat (first | apply Kd.R_alloc | apply Kd.R_drewN | apply Kd.R_drew)); exact Kd.R_mono (Kd.R_far (p := ⟨gb169, 5, none⟩) (Kd.R_far (p := ⟨gb169, 4, none⟩) (Kd.R_far (p := ⟨gb169, 3, none⟩) (Kd.R_far (p := ⟨gb169, 2, none⟩) (Kd.R_far (p := ⟨gb169, 1, none⟩) (Kd.R_far (p := ⟨gb169, 0, none⟩) (Kd.R_types HO177.out BK169.out (by decide)) (fun _ hk => hk.2) (.int .u64 t170)) (fun _ hk => hk.2) (.int .u64 t171)) (fun _ hk => hk.2) (.int .u64 t172)) (fun _ hk => hk.2) (.int .u64 t173)) (fun _ hk => hk.2) (.int .i64 t174)) (fun _ hk => hk.2) (.slice Ao9 t175.length co9)) (fun _ hk => trivial), K2a_ HB GE168 GE169⟩
def tenementlaw22_Vector_vector.l0 : Nat → Int → Int → Int → Int → Int → Bool → Option (Int × Int × Int × Int)
 | 0, _, _, _, _, _, _ => none
 | k + 1, x3, x101, x102, x103, x104, x125 => if x3 < 4 then (if x3 = 0 then (tenementlaw22_Vector_vector.l0 k (wrap64 (x3 + 1)) (Int.tmod x101 4) x102 x103 x104 x125) else (if x3 = 1 then (tenementlaw22_Vector_vector.l0 k (wrap64 (x3 + 1)) x101 (Int.tmod x102 4) x103 x104 x125) else (if x3 = 2 then (tenementlaw22_Vector_vector.l0 k (wrap64 (x3 + 1)) x101 x102 (Int.tmod x103 4) x104 x125) else (if x3 = 3 then (tenementlaw22_Vector_vector.l0 k (wrap64 (x3 + 1)) x101 x102 x103 (Int.tmod x104 4) x125) else (none))))) else (some (x101, x102, x103, x104))
def tenementlaw22_Vector_vector.f (k : Nat) (a0_0 : Int) (a0_1 : Int) (a0_2 : Int) (a0_3 : Int) (a0_4 : Bool) : Option (Int × Int × Int × Int) := if a0_4 = true then (tenementlaw22_Vector_vector.l0 k 0 a0_0 a0_1 a0_2 a0_3 a0_4) else (some (a0_0, a0_1, a0_2, a0_3))
set_option maxHeartbeats 8000000 in
set_option maxRecDepth 100000 in
theorem tenementlaw22_Vector_vector.calls (k : Nat) (a0_0 : Int) (a0_1 : Int) (a0_2 : Int) (a0_3 : Int) (a0_4 : Bool) (r1 : Int) (r2 : Int) (r3 : Int) (r4 : Int) (w : World) (h : tenementlaw22_Vector_vector.f k a0_0 a0_1 a0_2 a0_3 a0_4 = some (r1, r2, r3, r4)) :
  Calls Try.prog 13 #[.agg #[.int .u64 a0_0, .int .u64 a0_1, .int .u64 a0_2, .int .u64 a0_3, .bool a0_4]] w fun e w' => e = .returned (.agg #[.int .u64 r1, .int .u64 r2, .int .u64 r3, .int .u64 r4]) ∧ Below w.heap.size w w' := by
 have hu31 := Try.underlying31
 have hu29 := Try.underlying29
 have HB := Aside0.mk (Below.refl w.heap.size w)
 have H : (if a0_4 = true then (tenementlaw22_Vector_vector.l0 k 0 a0_0 a0_1 a0_2 a0_3 a0_4) else (some (a0_0, a0_1, a0_2, a0_3))) = some (r1, r2, r3, r4) := h
 clear h
 by_cases c2 : a0_4 = true
 rotate_left
 ·replace c2 := Bool.eq_false_iff.mpr c2
  subst c2
  have H1 : (some (a0_0, a0_1, a0_2, a0_3)) = some (r1, r2, r3, r4) := by rw [if_neg (show ¬ (false = true) by decide)] at H; exact H
  clear H
  have H := H1
  clear H1
  simp only [Option.some.injEq, Prod.mk.injEq] at H
  obtain ⟨rfl, rfl, rfl, rfl⟩ := H
  go_enter Try.func13, Try.ntmps13
  go_wp2_with (first | ((with_reducible refine gate_dst (N := 1) rfl ?_); refine Ka_ 1 #[.int .u64 a0_0, .int .u64 a0_1, .int .u64 a0_2, .int .u64 a0_3, .bool false] 31 ?_; intro gb202 hg w23 hbox hb; have BK202 := Aside0.mk (hbox); have GW202 := Kw_ HB hg; have GE202 := GW202; replace HB := Ks_ HB hb; clear hb hbox hg) | ((with_reducible refine gate_dst (N := 2) rfl ?_); refine Ka_ 2 #[.int .u64 0, .int .u64 0, .int .u64 0, .int .u64 0] 29 ?_; intro gb203 hg w24 hbox hb; have BK203 := Aside0.mk (hbox); have GW203 := Kw_ HB hg; have GE203 := GW203; have NB202_203 := Kl_ BK202 hg; have NB203_202 := Kr_ BK202 hg; replace BK202 := Kb_ BK202 hb; replace HB := Ks_ HB hb; clear hb hbox hg; have hnb25 := NB202_203.out; have hnc25 := NB203_202.out; obtain ⟨hcz26_0, hcz26_1, hcz26_2, hcz26_3, hcz26_4, hfz26_0, hfz26_1, hfz26_2, hfz26_3, hfz26_4⟩ := Ke5_ BK202.out; obtain ⟨hcz27_0, hcz27_1, hcz27_2, hcz27_3, hfz27_0, hfz27_1, hfz27_2, hfz27_3⟩ := Ke4_ BK203.out))
  refine bodyPost_ret (results_cell_row rfl _ _ gb203 29 #[.int .u64 a0_0, .int .u64 a0_1, .int .u64 a0_2, .int .u64 a0_3] (0, 0) _ rfl (by refine Kv_ ?_; refine blk_put (cs := #[.int .u64 a0_0, .int .u64 a0_1, .int .u64 a0_2, .int .u64 0]) ?_ 3 _ rfl; refine Kv_ ?_; refine blk_put (cs := #[.int .u64 a0_0, .int .u64 a0_1, .int .u64 0, .int .u64 0]) ?_ 2 _ rfl; refine Kv_ ?_; refine blk_put (cs := #[.int .u64 a0_0, .int .u64 0, .int .u64 0, .int .u64 0]) ?_ 1 _ rfl; refine Kv_ ?_; refine blk_put (cs := #[.int .u64 0, .int .u64 0, .int .u64 0, .int .u64 0]) ?_ 0 _ rfl; exact Kq_ BK203) Try.underlying29 rfl (by kernel_rfl)) rfl ?_
  exact ⟨Kh_, K2a_ HB GE202 GE203⟩
 subst c2
 have H1 : (tenementlaw22_Vector_vector.l0 k 0 a0_0 a0_1 a0_2 a0_3 true) = some (r1, r2, r3, r4) := by rw [if_pos rfl] at H; exact H
 clear H
 have H := H1
 clear H1
 have H' := Aside0.mk H
 clear H
 go_enter Try.func13, Try.ntmps13
 go_wp2_with (first | ((with_reducible refine gate_dst (N := 1) rfl ?_); refine Ka_ 1 #[.int .u64 a0_0, .int .u64 a0_1, .int .u64 a0_2, .int .u64 a0_3, .bool true] 31 ?_; intro gb202 hg w3 hbox hb; have BK202 := Aside0.mk (hbox); have GW202 := Kw_ HB hg; have GE202 := GW202; replace HB := Ks_ HB hb; clear hb hbox hg) | ((with_reducible refine gate_dst (N := 2) rfl ?_); refine Ka_ 2 #[.int .u64 0, .int .u64 0, .int .u64 0, .int .u64 0] 29 ?_; intro gb203 hg w4 hbox hb; have BK203 := Aside0.mk (hbox); have GW203 := Kw_ HB hg; have GE203 := GW203; have NB202_203 := Kl_ BK202 hg; have NB203_202 := Kr_ BK202 hg; replace BK202 := Kb_ BK202 hb; replace HB := Ks_ HB hb; clear hb hbox hg; have hnb5 := NB202_203.out; have hnc5 := NB203_202.out; obtain ⟨hcz6_0, hcz6_1, hcz6_2, hcz6_3, hcz6_4, hfz6_0, hfz6_1, hfz6_2, hfz6_3, hfz6_4⟩ := Ke5_ BK202.out))
 go_loopg [3] k (fun kq v3 w' => ∃ (x3_1 : Int) (x101_1 : Int) (x102_1 : Int) (x103_1 : Int) (x104_1 : Int), v3 = .int .i64 x3_1 ∧ Aside0 (tenementlaw22_Vector_vector.l0 kq x3_1 x101_1 x102_1 x103_1 x104_1 true = some (r1, r2, r3, r4)) ∧ Aside0 (kq ≤ k) ∧ Aside0 (w'.heap[gb202]? = some (.cells #[.int .u64 x101_1, .int .u64 x102_1, .int .u64 x103_1, .int .u64 x104_1, .bool true] 31 (0, 0))) ∧ Aside0 (w'.heap[gb203]? = some (.cells #[.int .u64 0, .int .u64 0, .int .u64 0, .int .u64 0] 29 (0, 0))) ∧ Aside0 (Below w.heap.size w w'))
 case atStart => exact ⟨(0), (a0_0), (a0_1), (a0_2), (a0_3), (by first | rfl | (simp; done) | (simp [*]; done)), H', ⟨Nat.le_refl _⟩, ⟨by exact Kq_ BK202⟩, ⟨by exact Kq_ BK203⟩, ⟨K2a_ HB GE202 GE203⟩⟩
 case round =>
  clear H'
  try clear c1
  try clear c2
  try clear p2
  try clear c5
  try clear hcz6_0
  try clear hcz6_1
  try clear hcz6_2
  try clear hcz6_3
  try clear hcz6_4
  try clear hfz6_0
  try clear hfz6_1
  try clear hfz6_2
  try clear hfz6_3
  try clear hfz6_4
  obtain ⟨x3_1, x101_1, x102_1, x103_1, x104_1, rfl, HA, HK1, BK202, BK203, HB⟩ := hrel
  cases gk with
  | zero => exact absurd HA.out (by simp [tenementlaw22_Vector_vector.l0])
  | succ k1 =>
   have H := HA.out
   clear HA
   simp only [tenementlaw22_Vector_vector.l0] at H
   by_cases c7 : x3_1 < 4
   rotate_left
   ·rw [if_neg c7] at H
    have c7b0 : decide (x3_1 < 4) = false := decide_eq_false c7
    clear c7
    simp only [Option.some.injEq, Prod.mk.injEq] at H
    obtain ⟨rfl, rfl, rfl, rfl⟩ := H
    have hnb20 := NB202_203.out
    have hnc20 := NB203_202.out
    obtain ⟨hcz21_0, hcz21_1, hcz21_2, hcz21_3, hcz21_4, hfz21_0, hfz21_1, hfz21_2, hfz21_3, hfz21_4⟩ := Ke5_ BK202.out
    obtain ⟨hcz22_0, hcz22_1, hcz22_2, hcz22_3, hfz22_0, hfz22_1, hfz22_2, hfz22_3⟩ := Ke4_ BK203.out
    go_wp2
    refine bodyPost_ret (results_cell_row rfl _ _ gb203 29 #[.int .u64 x101_1, .int .u64 x102_1, .int .u64 x103_1, .int .u64 x104_1] (0, 0) _ rfl (by refine Kv_ ?_; refine blk_put (cs := #[.int .u64 x101_1, .int .u64 x102_1, .int .u64 x103_1, .int .u64 0]) ?_ 3 _ rfl; refine Kv_ ?_; refine blk_put (cs := #[.int .u64 x101_1, .int .u64 x102_1, .int .u64 0, .int .u64 0]) ?_ 2 _ rfl; refine Kv_ ?_; refine blk_put (cs := #[.int .u64 x101_1, .int .u64 0, .int .u64 0, .int .u64 0]) ?_ 1 _ rfl; refine Kv_ ?_; refine blk_put (cs := #[.int .u64 0, .int .u64 0, .int .u64 0, .int .u64 0]) ?_ 0 _ rfl; exact Kq_ BK203) Try.underlying29 rfl (by kernel_rfl)) rfl ?_
    exact ⟨Kh_, K2a_ HB GE202 GE203⟩
   rw [if_pos c7] at H
   have c7b0 : decide (x3_1 < 4) = true := decide_eq_true c7
   clear c7
   by_cases c8 : x3_1 = 0
   ·subst c8
    have H1 : (tenementlaw22_Vector_vector.l0 k1 1 (Int.tmod x101_1 4) x102_1 x103_1 x104_1 true) = some (r1, r2, r3, r4) := by rw [if_pos rfl] at H; (try simp only [show wrap64 ((0 : Int) + 1) = 1 from by first | rfl | decide | (unfold wrap64; omega), show wrap64 ((0 : Int) - 1) = -1 from by first | rfl | decide | (unfold wrap64; omega)] at H); exact H
    clear H
    have H := H1
    clear H1
    have H' := Aside0.mk H
    clear H
    have hnb9 := NB202_203.out
    have hnc9 := NB203_202.out
    obtain ⟨hcz10_0, hcz10_1, hcz10_2, hcz10_3, hcz10_4, hfz10_0, hfz10_1, hfz10_2, hfz10_3, hfz10_4⟩ := Ke5_ BK202.out
    go_wp2
    go_roundg k1
    case measure => have := HK1.out; omega
    case rel => exact ⟨(1), (Int.tmod x101_1 4), (x102_1), (x103_1), (x104_1), (by first | rfl | (simp; done) | (simp [*]; done)), H', ⟨by have := HK1.out; omega⟩, ⟨by refine Kv_ ?_; refine blk_put (cs := #[.int .u64 x101_1, .int .u64 x102_1, .int .u64 x103_1, .int .u64 x104_1, .bool true]) ?_ 0 _ rfl; exact Kq_ BK202⟩, ⟨by exact K1b_ BK203 NB203_202⟩, ⟨K2a_ HB GE202 GE203⟩⟩
   rw [if_neg c8] at H
   by_cases c11 : x3_1 = 1
   ·subst c11
    have H1 : (tenementlaw22_Vector_vector.l0 k1 2 x101_1 (Int.tmod x102_1 4) x103_1 x104_1 true) = some (r1, r2, r3, r4) := by rw [if_pos rfl] at H; (try simp only [show wrap64 ((1 : Int) + 1) = 2 from by first | rfl | decide | (unfold wrap64; omega), show wrap64 ((1 : Int) - 1) = 0 from by first | rfl | decide | (unfold wrap64; omega)] at H); exact H
    clear H
    have H := H1
    clear H1
    have H' := Aside0.mk H
    clear H
    have hnb12 := NB202_203.out
    have hnc12 := NB203_202.out
    obtain ⟨hcz13_0, hcz13_1, hcz13_2, hcz13_3, hcz13_4, hfz13_0, hfz13_1, hfz13_2, hfz13_3, hfz13_4⟩ := Ke5_ BK202.out
    go_wp2
    go_roundg k1
    case measure => have := HK1.out; omega
    case rel => exact ⟨(2), (x101_1), (Int.tmod x102_1 4), (x103_1), (x104_1), (by first | rfl | (simp; done) | (simp [*]; done)), H', ⟨by have := HK1.out; omega⟩, ⟨by refine Kv_ ?_; refine blk_put (cs := #[.int .u64 x101_1, .int .u64 x102_1, .int .u64 x103_1, .int .u64 x104_1, .bool true]) ?_ 1 _ rfl; exact Kq_ BK202⟩, ⟨by exact K1b_ BK203 NB203_202⟩, ⟨K2a_ HB GE202 GE203⟩⟩
   rw [if_neg c11] at H
   by_cases c14 : x3_1 = 2
   ·subst c14
    have H1 : (tenementlaw22_Vector_vector.l0 k1 3 x101_1 x102_1 (Int.tmod x103_1 4) x104_1 true) = some (r1, r2, r3, r4) := by rw [if_pos rfl] at H; (try simp only [show wrap64 ((2 : Int) + 1) = 3 from by first | rfl | decide | (unfold wrap64; omega), show wrap64 ((2 : Int) - 1) = 1 from by first | rfl | decide | (unfold wrap64; omega)] at H); exact H
    clear H
    have H := H1
    clear H1
    have H' := Aside0.mk H
    clear H
    have hnb15 := NB202_203.out
    have hnc15 := NB203_202.out
    obtain ⟨hcz16_0, hcz16_1, hcz16_2, hcz16_3, hcz16_4, hfz16_0, hfz16_1, hfz16_2, hfz16_3, hfz16_4⟩ := Ke5_ BK202.out
    go_wp2
    go_roundg k1
    case measure => have := HK1.out; omega
    case rel => exact ⟨(3), (x101_1), (x102_1), (Int.tmod x103_1 4), (x104_1), (by first | rfl | (simp; done) | (simp [*]; done)), H', ⟨by have := HK1.out; omega⟩, ⟨by refine Kv_ ?_; refine blk_put (cs := #[.int .u64 x101_1, .int .u64 x102_1, .int .u64 x103_1, .int .u64 x104_1, .bool true]) ?_ 2 _ rfl; exact Kq_ BK202⟩, ⟨by exact K1b_ BK203 NB203_202⟩, ⟨K2a_ HB GE202 GE203⟩⟩
   rw [if_neg c14] at H
   by_cases c17 : x3_1 = 3
   rotate_left
   ·rw [if_neg c17] at H
    exact absurd H (by simp)
   subst c17
   have H1 : (tenementlaw22_Vector_vector.l0 k1 4 x101_1 x102_1 x103_1 (Int.tmod x104_1 4) true) = some (r1, r2, r3, r4) := by rw [if_pos rfl] at H; (try simp only [show wrap64 ((3 : Int) + 1) = 4 from by first | rfl | decide | (unfold wrap64; omega), show wrap64 ((3 : Int) - 1) = 2 from by first | rfl | decide | (unfold wrap64; omega)] at H); exact H
   clear H
   have H := H1
   clear H1
   have H' := Aside0.mk H
   clear H
   have hnb18 := NB202_203.out
   have hnc18 := NB203_202.out
   obtain ⟨hcz19_0, hcz19_1, hcz19_2, hcz19_3, hcz19_4, hfz19_0, hfz19_1, hfz19_2, hfz19_3, hfz19_4⟩ := Ke5_ BK202.out
   go_wp2
   go_roundg k1
   case measure => have := HK1.out; omega
   case rel => exact ⟨(4), (x101_1), (x102_1), (x103_1), (Int.tmod x104_1 4), (by first | rfl | (simp; done) | (simp [*]; done)), H', ⟨by have := HK1.out; omega⟩, ⟨by refine Kv_ ?_; refine blk_put (cs := #[.int .u64 x101_1, .int .u64 x102_1, .int .u64 x103_1, .int .u64 x104_1, .bool true]) ?_ 3 _ rfl; exact Kq_ BK202⟩, ⟨by exact K1b_ BK203 NB203_202⟩, ⟨K2a_ HB GE202 GE203⟩⟩
theorem eqA42 (d : Nat) (w : World) (x0 y0 : Int) (x1 y1 : Int) (x2 y2 : Int) (x3 y3 : Int) :
  (Op.equalIn (d + 2) 42 (.agg #[.int .u64 x0, .int .u64 x1, .int .u64 x2, .int .u64 x3]) (.agg #[.int .u64 y0, .int .u64 y1, .int .u64 y2, .int .u64 y3])).run Try.prog w = .ok (x0 == y0 && (x1 == y1 && (x2 == y2 && (x3 == y3)))) w := by
 have hu := Try.underlying42
 have hs : (sizeOf 27).run Try.prog w = .ok 1 w := by go_simp
 have hp : ∀ (xs : Array Value) (i : Nat) (v : Value), xs[i]? = some v → (part 27 xs i).run Try.prog w = .ok v w := by
  intro xs i v h
  unfold part
  go_simp
 have hE : ∀ a b : Int, (Op.equalIn (d + 1) 27 (.int .u64 a) (.int .u64 b)).run Try.prog w = .ok (a == b) w := by intro a b; go_simp
 obtain ⟨X, hX⟩ : ∃ X, X = (#[.int .u64 x0, .int .u64 x1, .int .u64 x2, .int .u64 x3] : Array Value) := ⟨_, rfl⟩
 obtain ⟨Y, hY⟩ : ∃ Y, Y = (#[.int .u64 y0, .int .u64 y1, .int .u64 y2, .int .u64 y3] : Array Value) := ⟨_, rfl⟩
 rw [← hX, ← hY]
 have a0 : (part 27 X 0).run Try.prog w = .ok (.int .u64 x0) w := by rw [hX]; exact hp _ 0 _ rfl
 have b0 : (part 27 Y 0).run Try.prog w = .ok (.int .u64 y0) w := by rw [hY]; exact hp _ 0 _ rfl
 have a1 : (part 27 X 1).run Try.prog w = .ok (.int .u64 x1) w := by rw [hX]; exact hp _ 1 _ rfl
 have b1 : (part 27 Y 1).run Try.prog w = .ok (.int .u64 y1) w := by rw [hY]; exact hp _ 1 _ rfl
 have a2 : (part 27 X 2).run Try.prog w = .ok (.int .u64 x2) w := by rw [hX]; exact hp _ 2 _ rfl
 have b2 : (part 27 Y 2).run Try.prog w = .ok (.int .u64 y2) w := by rw [hY]; exact hp _ 2 _ rfl
 have a3 : (part 27 X 3).run Try.prog w = .ok (.int .u64 x3) w := by rw [hX]; exact hp _ 3 _ rfl
 have b3 : (part 27 Y 3).run Try.prog w = .ok (.int .u64 y3) w := by rw [hY]; exact hp _ 3 _ rfl
 clear hX hY hp
 obtain ⟨m, hm⟩ : ∃ m, d + 1 = m := ⟨_, rfl⟩
 rw [hm] at hE
 rw [show d + 2 = m + 1 by omega]
 clear hm
 unfold Op.equalIn
 simp only [Sem.run_bind, run_underlying hu, Result.andThen_ok, hs, Nat.mul_one]
 have hfor : ∀ (f : Nat → Option Bool × Unit → Sem (ForInStep (Option Bool × Unit))), forIn (m := Sem) [:4] ((none, ()) : Option Bool × Unit) f = forIn (m := Sem) [0, 1, 2, 3] ((none, ()) : Option Bool × Unit) f := by
  intro f
  simp
  rfl
 rw [hfor]
 simp only [List.forIn_cons, List.forIn_nil, Sem.run_bind, a0, b0, a1, b1, a2, b2, a3, b3, Result.andThen_ok, hE]
 by_cases h0 : x0 = y0 <;> by_cases h1 : x1 = y1 <;> by_cases h2 : x2 = y2 <;> by_cases h3 : x3 = y3 <;> simp [Sem.run_bind, a0, b0, a1, b1, a2, b2, a3, b3, hE, h0, h1, h2, h3]
theorem ixA42_0 (x0 : Int) (x1 : Int) (x2 : Int) (x3 : Int) (W : World) :
  (Instr.index 42 (.agg #[.int .u64 x0, .int .u64 x1, .int .u64 x2, .int .u64 x3]) (.int .i64 0)).run Try.prog W = .ok (.int .u64 x0) W := by
 have hu := Try.underlying42
 have hs : (sizeOf 27).run Try.prog W = .ok 1 W := by go_simp
 have hp : (part 27 #[.int .u64 x0, .int .u64 x1, .int .u64 x2, .int .u64 x3] 0).run Try.prog W = .ok (.int .u64 x0) W := by
  unfold part
  go_simp
 simp [Instr.index, asIntOf, Sem.run_bind, run_underlying hu, hs, hp]
theorem ixA42_1 (x0 : Int) (x1 : Int) (x2 : Int) (x3 : Int) (W : World) :
  (Instr.index 42 (.agg #[.int .u64 x0, .int .u64 x1, .int .u64 x2, .int .u64 x3]) (.int .i64 1)).run Try.prog W = .ok (.int .u64 x1) W := by
 have hu := Try.underlying42
 have hs : (sizeOf 27).run Try.prog W = .ok 1 W := by go_simp
 have hp : (part 27 #[.int .u64 x0, .int .u64 x1, .int .u64 x2, .int .u64 x3] 1).run Try.prog W = .ok (.int .u64 x1) W := by
  unfold part
  go_simp
 simp [Instr.index, asIntOf, Sem.run_bind, run_underlying hu, hs, hp]
theorem ixA42_2 (x0 : Int) (x1 : Int) (x2 : Int) (x3 : Int) (W : World) :
  (Instr.index 42 (.agg #[.int .u64 x0, .int .u64 x1, .int .u64 x2, .int .u64 x3]) (.int .i64 2)).run Try.prog W = .ok (.int .u64 x2) W := by
 have hu := Try.underlying42
 have hs : (sizeOf 27).run Try.prog W = .ok 1 W := by go_simp
 have hp : (part 27 #[.int .u64 x0, .int .u64 x1, .int .u64 x2, .int .u64 x3] 2).run Try.prog W = .ok (.int .u64 x2) W := by
  unfold part
  go_simp
 simp [Instr.index, asIntOf, Sem.run_bind, run_underlying hu, hs, hp]
theorem ixA42_3 (x0 : Int) (x1 : Int) (x2 : Int) (x3 : Int) (W : World) :
  (Instr.index 42 (.agg #[.int .u64 x0, .int .u64 x1, .int .u64 x2, .int .u64 x3]) (.int .i64 3)).run Try.prog W = .ok (.int .u64 x3) W := by
 have hu := Try.underlying42
 have hs : (sizeOf 27).run Try.prog W = .ok 1 W := by go_simp
 have hp : (part 27 #[.int .u64 x0, .int .u64 x1, .int .u64 x2, .int .u64 x3] 3).run Try.prog W = .ok (.int .u64 x3) W := by
  unfold part
  go_simp
 simp [Instr.index, asIntOf, Sem.run_bind, run_underlying hu, hs, hp]
theorem eqA78 (d : Nat) (w : World) (x0 y0 : Int) (x1 y1 : Int) (x2 y2 : Int) (x3 y3 : Int) (x4 y4 : Int) :
  (Op.equalIn (d + 3) 78 (.agg #[.int .u64 x0, .int .u64 x1, .int .u64 x2, .int .u64 x3, .int .i64 x4]) (.agg #[.int .u64 y0, .int .u64 y1, .int .u64 y2, .int .u64 y3, .int .i64 y4])).run Try.prog w = .ok ((x0 == y0 && (x1 == y1 && (x2 == y2 && (x3 == y3)))) && (x4 == y4)) w := by
 refine eqA_of Try.underlying78 (by kernel_rfl) ?_
 refine eqf_cons (by rfl) (by go_simp) (by go_simp) (eqA42 (d + 0) w _ _ _ _ _ _ _ _) ?_
 exact eqf_last (by rfl) (by go_simp; rfl) (by go_simp; rfl) (by go_simp)
def tenementref06_Sum.f (a0_0 : Int) (a0_1 : Int) (a0_2 : Int) (a0_3 : Int) : Option (Int) := some (IntKind.u64.wrap ((IntKind.u64.wrap ((IntKind.u64.wrap (a0_0 + a0_1)) + a0_2)) + a0_3))
set_option maxHeartbeats 8000000 in
set_option maxRecDepth 100000 in
theorem tenementref06_Sum.calls (a0_0 : Int) (a0_1 : Int) (a0_2 : Int) (a0_3 : Int) (r : Int) (w : World) (h : tenementref06_Sum.f a0_0 a0_1 a0_2 a0_3 = some r) :
  Calls Try.prog 68 #[.agg #[.int .u64 a0_0, .int .u64 a0_1, .int .u64 a0_2, .int .u64 a0_3]] w fun e w' => e = .returned (.int .u64 r) ∧ Below w.heap.size w w' := by
 have hu42 := Try.underlying42
 have HB := Aside0.mk (Below.refl w.heap.size w)
 have H : (some (IntKind.u64.wrap ((IntKind.u64.wrap ((IntKind.u64.wrap (a0_0 + a0_1)) + a0_2)) + a0_3))) = some r := h
 clear h
 obtain rfl := Option.some.inj H
 go_enter Try.func68, Try.ntmps68
 go_wp2_with (first | ((with_reducible refine gate_dst (N := 1) rfl ?_); refine Ka_ 1 #[.int .u64 a0_0, .int .u64 a0_1, .int .u64 a0_2, .int .u64 a0_3] 42 ?_; intro gb204 hg w2 hbox hb; have BK204 := Aside0.mk (hbox); have GW204 := Kw_ HB hg; have GE204 := GW204; replace HB := Ks_ HB hb; clear hb hbox hg; obtain ⟨hcz3_0, hcz3_1, hcz3_2, hcz3_3, hfz3_0, hfz3_1, hfz3_2, hfz3_3⟩ := Ke4_ BK204.out))
 go_ret
 exact ⟨Kh_, Kz_ HB GE204⟩
def tenementref07_less.l0 : Nat → Int → Int → Int → Int → Int → Int → Int → Int → Int → Option (Bool)
 | 0, _, _, _, _, _, _, _, _, _ => none
 | k + 1, x5, x109, x110, x111, x112, x113, x114, x115, x116 => if x5 < 4 then (if x5 = 0 then (if x109 = x113 then (tenementref07_less.l0 k (wrap64 (x5 + 1)) x109 x110 x111 x112 x113 x114 x115 x116) else (some (decide (x109 < x113)))) else (if x5 = 1 then (if x110 = x114 then (tenementref07_less.l0 k (wrap64 (x5 + 1)) x109 x110 x111 x112 x113 x114 x115 x116) else (some (decide (x110 < x114)))) else (if x5 = 2 then (if x111 = x115 then (tenementref07_less.l0 k (wrap64 (x5 + 1)) x109 x110 x111 x112 x113 x114 x115 x116) else (some (decide (x111 < x115)))) else (if x5 = 3 then (if x112 = x116 then (tenementref07_less.l0 k (wrap64 (x5 + 1)) x109 x110 x111 x112 x113 x114 x115 x116) else (some (decide (x112 < x116)))) else (none))))) else (some false)
def tenementref07_less.f (k : Nat) (a0_0 : Int) (a0_1 : Int) (a0_2 : Int) (a0_3 : Int) (a1_0 : Int) (a1_1 : Int) (a1_2 : Int) (a1_3 : Int) : Option (Bool) := tenementref07_less.l0 k 0 a0_0 a0_1 a0_2 a0_3 a1_0 a1_1 a1_2 a1_3
set_option maxHeartbeats 8000000 in
set_option maxRecDepth 100000 in
theorem tenementref07_less.calls (k : Nat) (a0_0 : Int) (a0_1 : Int) (a0_2 : Int) (a0_3 : Int) (a1_0 : Int) (a1_1 : Int) (a1_2 : Int) (a1_3 : Int) (r : Bool) (w : World) (h : tenementref07_less.f k a0_0 a0_1 a0_2 a0_3 a1_0 a1_1 a1_2 a1_3 = some r) :
  Calls Try.prog 69 #[.agg #[.int .u64 a0_0, .int .u64 a0_1, .int .u64 a0_2, .int .u64 a0_3], .agg #[.int .u64 a1_0, .int .u64 a1_1, .int .u64 a1_2, .int .u64 a1_3]] w fun e w' => e = .returned (.bool r) ∧ Below w.heap.size w w' := by
 have hu42 := Try.underlying42
 have HB := Aside0.mk (Below.refl w.heap.size w)
 have H : (tenementref07_less.l0 k 0 a0_0 a0_1 a0_2 a0_3 a1_0 a1_1 a1_2 a1_3) = some r := h
 clear h
 have H' := Aside0.mk H
 clear H
 go_enter Try.func69, Try.ntmps69
 go_wp2_with (first | ((with_reducible refine gate_dst (N := 2) rfl ?_); refine Ka_ 2 #[.int .u64 a0_0, .int .u64 a0_1, .int .u64 a0_2, .int .u64 a0_3] 42 ?_; intro gb205 hg w3 hbox hb; have BK205 := Aside0.mk (hbox); have GW205 := Kw_ HB hg; have GE205 := GW205; replace HB := Ks_ HB hb; clear hb hbox hg) | ((with_reducible refine gate_dst (N := 3) rfl ?_); refine Ka_ 3 #[.int .u64 a1_0, .int .u64 a1_1, .int .u64 a1_2, .int .u64 a1_3] 42 ?_; intro gb206 hg w4 hbox hb; have BK206 := Aside0.mk (hbox); have GW206 := Kw_ HB hg; have GE206 := GW206; have NB205_206 := Kl_ BK205 hg; have NB206_205 := Kr_ BK205 hg; replace BK205 := Kb_ BK205 hb; replace HB := Ks_ HB hb; clear hb hbox hg))
 repeat (go_quiet (first | ((with_reducible refine gate_dst (N := 2) rfl ?_); refine Ka_ 2 #[.int .u64 a0_0, .int .u64 a0_1, .int .u64 a0_2, .int .u64 a0_3] 42 ?_; intro gb205 hg w3 hbox hb; have BK205 := Aside0.mk (hbox); have GW205 := Kw_ HB hg; have GE205 := GW205; replace HB := Ks_ HB hb; clear hb hbox hg) | ((with_reducible refine gate_dst (N := 3) rfl ?_); refine Ka_ 3 #[.int .u64 a1_0, .int .u64 a1_1, .int .u64 a1_2, .int .u64 a1_3] 42 ?_; intro gb206 hg w4 hbox hb; have BK206 := Aside0.mk (hbox); have GW206 := Kw_ HB hg; have GE206 := GW206; have NB205_206 := Kl_ BK205 hg; have NB206_205 := Kr_ BK205 hg; replace BK205 := Kb_ BK205 hb; replace HB := Ks_ HB hb; clear hb hbox hg)); try go_wp2_with (first | ((with_reducible refine gate_dst (N := 2) rfl ?_); refine Ka_ 2 #[.int .u64 a0_0, .int .u64 a0_1, .int .u64 a0_2, .int .u64 a0_3] 42 ?_; intro gb205 hg w3 hbox hb; have BK205 := Aside0.mk (hbox); have GW205 := Kw_ HB hg; have GE205 := GW205; replace HB := Ks_ HB hb; clear hb hbox hg) | ((with_reducible refine gate_dst (N := 3) rfl ?_); refine Ka_ 3 #[.int .u64 a1_0, .int .u64 a1_1, .int .u64 a1_2, .int .u64 a1_3] 42 ?_; intro gb206 hg w4 hbox hb; have BK206 := Aside0.mk (hbox); have GW206 := Kw_ HB hg; have GE206 := GW206; have NB205_206 := Kl_ BK205 hg; have NB206_205 := Kr_ BK205 hg; replace BK205 := Kb_ BK205 hb; replace HB := Ks_ HB hb; clear hb hbox hg)))
 go_loopg [5] k (fun kq v5 w' => ∃ (x5_1 : Int), v5 = .int .i64 x5_1 ∧ Aside0 (tenementref07_less.l0 kq x5_1 a0_0 a0_1 a0_2 a0_3 a1_0 a1_1 a1_2 a1_3 = some r) ∧ Aside0 (kq ≤ k) ∧ Aside0 (w'.heap[gb205]? = some (.cells #[.int .u64 a0_0, .int .u64 a0_1, .int .u64 a0_2, .int .u64 a0_3] 42 (0, 0))) ∧ Aside0 (w'.heap[gb206]? = some (.cells #[.int .u64 a1_0, .int .u64 a1_1, .int .u64 a1_2, .int .u64 a1_3] 42 (0, 0))) ∧ Aside0 (Below w.heap.size w w'))
 case atStart => exact ⟨(0), (by first | rfl | (simp; done) | (simp [*]; done)), H', ⟨Nat.le_refl _⟩, ⟨by exact Kq_ BK205⟩, ⟨by exact Kq_ BK206⟩, ⟨K2a_ HB GE205 GE206⟩⟩
 case round =>
  clear H'
  try clear p2
  obtain ⟨x5_1, rfl, HA, HK1, BK205, BK206, HB⟩ := hrel
  cases gk with
  | zero => exact absurd HA.out (by simp [tenementref07_less.l0])
  | succ k1 =>
   have H := HA.out
   clear HA
   simp only [tenementref07_less.l0] at H
   by_cases c5 : x5_1 < 4
   rotate_left
   ·rw [if_neg c5] at H
    have c5b0 : decide (x5_1 < 4) = false := decide_eq_false c5
    clear c5
    obtain rfl := Option.some.inj H
    go_wp2
    repeat (go_quiet (fail); try go_wp2)
    go_ret
    exact ⟨Kh_, K2a_ HB GE205 GE206⟩
   rw [if_pos c5] at H
   have c5b0 : decide (x5_1 < 4) = true := decide_eq_true c5
   clear c5
   by_cases c6 : x5_1 = 0
   ·subst c6
    have H1 : (if a0_0 = a1_0 then (tenementref07_less.l0 k1 1 a0_0 a0_1 a0_2 a0_3 a1_0 a1_1 a1_2 a1_3) else (some (decide (a0_0 < a1_0)))) = some r := by rw [if_pos rfl] at H; (try simp only [show wrap64 ((0 : Int) + 1) = 1 from by first | rfl | decide | (unfold wrap64; omega), show wrap64 ((0 : Int) - 1) = -1 from by first | rfl | decide | (unfold wrap64; omega)] at H); exact H
    clear H
    have H := H1
    clear H1
    by_cases c7 : a0_0 = a1_0
    rotate_left
    ·rw [if_neg c7] at H
     have c7b0 : (a0_0 == a1_0) = false := beq_eq_false_iff_ne.mpr c7
     have c7b1 : (a0_0 != a1_0) = true := bne_iff_ne.mpr c7
     obtain rfl := Option.some.inj H
     have hnb11 := NB205_206.out
     have hnc11 := NB206_205.out
     obtain ⟨hcz12_0, hcz12_1, hcz12_2, hcz12_3, hfz12_0, hfz12_1, hfz12_2, hfz12_3⟩ := Ke4_ BK205.out
     obtain ⟨hcz13_0, hcz13_1, hcz13_2, hcz13_3, hfz13_0, hfz13_1, hfz13_2, hfz13_3⟩ := Ke4_ BK206.out
     go_wp2
     repeat (go_quiet (fail); try go_wp2)
     go_ret
     exact ⟨Kh_, K2a_ HB GE205 GE206⟩
    rw [if_pos c7] at H
    have c7b0 : (a0_0 == a1_0) = true := beq_iff_eq.mpr c7
    have c7b1 : (a0_0 != a1_0) = false := bne_eq_false_iff_eq.mpr c7
    clear c7
    have H' := Aside0.mk H
    clear H
    have hnb8 := NB205_206.out
    have hnc8 := NB206_205.out
    obtain ⟨hcz9_0, hcz9_1, hcz9_2, hcz9_3, hfz9_0, hfz9_1, hfz9_2, hfz9_3⟩ := Ke4_ BK205.out
    obtain ⟨hcz10_0, hcz10_1, hcz10_2, hcz10_3, hfz10_0, hfz10_1, hfz10_2, hfz10_3⟩ := Ke4_ BK206.out
    go_wp2
    repeat (go_quiet (fail); try go_wp2)
    go_roundg k1
    case measure => have := HK1.out; omega
    case rel => exact ⟨(1), (by first | rfl | (simp; done) | (simp [*]; done)), H', ⟨by have := HK1.out; omega⟩, ⟨by exact Kq_ BK205⟩, ⟨by exact Kq_ BK206⟩, ⟨K2a_ HB GE205 GE206⟩⟩
   rw [if_neg c6] at H
   by_cases c14 : x5_1 = 1
   ·subst c14
    have H1 : (if a0_1 = a1_1 then (tenementref07_less.l0 k1 2 a0_0 a0_1 a0_2 a0_3 a1_0 a1_1 a1_2 a1_3) else (some (decide (a0_1 < a1_1)))) = some r := by rw [if_pos rfl] at H; (try simp only [show wrap64 ((1 : Int) + 1) = 2 from by first | rfl | decide | (unfold wrap64; omega), show wrap64 ((1 : Int) - 1) = 0 from by first | rfl | decide | (unfold wrap64; omega)] at H); exact H
    clear H
    have H := H1
    clear H1
    by_cases c15 : a0_1 = a1_1
    rotate_left
    ·rw [if_neg c15] at H
     have c15b0 : (a0_1 == a1_1) = false := beq_eq_false_iff_ne.mpr c15
     have c15b1 : (a0_1 != a1_1) = true := bne_iff_ne.mpr c15
     obtain rfl := Option.some.inj H
     have hnb19 := NB205_206.out
     have hnc19 := NB206_205.out
     obtain ⟨hcz20_0, hcz20_1, hcz20_2, hcz20_3, hfz20_0, hfz20_1, hfz20_2, hfz20_3⟩ := Ke4_ BK205.out
     obtain ⟨hcz21_0, hcz21_1, hcz21_2, hcz21_3, hfz21_0, hfz21_1, hfz21_2, hfz21_3⟩ := Ke4_ BK206.out
     go_wp2
     repeat (go_quiet (fail); try go_wp2)
     go_ret
     exact ⟨Kh_, K2a_ HB GE205 GE206⟩
    rw [if_pos c15] at H
    have c15b0 : (a0_1 == a1_1) = true := beq_iff_eq.mpr c15
    have c15b1 : (a0_1 != a1_1) = false := bne_eq_false_iff_eq.mpr c15
    clear c15
    have H' := Aside0.mk H
    clear H
    have hnb16 := NB205_206.out
    have hnc16 := NB206_205.out
    obtain ⟨hcz17_0, hcz17_1, hcz17_2, hcz17_3, hfz17_0, hfz17_1, hfz17_2, hfz17_3⟩ := Ke4_ BK205.out
    obtain ⟨hcz18_0, hcz18_1, hcz18_2, hcz18_3, hfz18_0, hfz18_1, hfz18_2, hfz18_3⟩ := Ke4_ BK206.out
    go_wp2
    repeat (go_quiet (fail); try go_wp2)
    go_roundg k1
    case measure => have := HK1.out; omega
    case rel => exact ⟨(2), (by first | rfl | (simp; done) | (simp [*]; done)), H', ⟨by have := HK1.out; omega⟩, ⟨by exact Kq_ BK205⟩, ⟨by exact Kq_ BK206⟩, ⟨K2a_ HB GE205 GE206⟩⟩
   rw [if_neg c14] at H
   by_cases c22 : x5_1 = 2
   ·subst c22
    have H1 : (if a0_2 = a1_2 then (tenementref07_less.l0 k1 3 a0_0 a0_1 a0_2 a0_3 a1_0 a1_1 a1_2 a1_3) else (some (decide (a0_2 < a1_2)))) = some r := by rw [if_pos rfl] at H; (try simp only [show wrap64 ((2 : Int) + 1) = 3 from by first | rfl | decide | (unfold wrap64; omega), show wrap64 ((2 : Int) - 1) = 1 from by first | rfl | decide | (unfold wrap64; omega)] at H); exact H
    clear H
    have H := H1
    clear H1
    by_cases c23 : a0_2 = a1_2
    rotate_left
    ·rw [if_neg c23] at H
     have c23b0 : (a0_2 == a1_2) = false := beq_eq_false_iff_ne.mpr c23
     have c23b1 : (a0_2 != a1_2) = true := bne_iff_ne.mpr c23
     obtain rfl := Option.some.inj H
     have hnb27 := NB205_206.out
     have hnc27 := NB206_205.out
     obtain ⟨hcz28_0, hcz28_1, hcz28_2, hcz28_3, hfz28_0, hfz28_1, hfz28_2, hfz28_3⟩ := Ke4_ BK205.out
     obtain ⟨hcz29_0, hcz29_1, hcz29_2, hcz29_3, hfz29_0, hfz29_1, hfz29_2, hfz29_3⟩ := Ke4_ BK206.out
     go_wp2
     repeat (go_quiet (fail); try go_wp2)
     go_ret
     exact ⟨Kh_, K2a_ HB GE205 GE206⟩
    rw [if_pos c23] at H
    have c23b0 : (a0_2 == a1_2) = true := beq_iff_eq.mpr c23
    have c23b1 : (a0_2 != a1_2) = false := bne_eq_false_iff_eq.mpr c23
    clear c23
    have H' := Aside0.mk H
    clear H
    have hnb24 := NB205_206.out
    have hnc24 := NB206_205.out
    obtain ⟨hcz25_0, hcz25_1, hcz25_2, hcz25_3, hfz25_0, hfz25_1, hfz25_2, hfz25_3⟩ := Ke4_ BK205.out
    obtain ⟨hcz26_0, hcz26_1, hcz26_2, hcz26_3, hfz26_0, hfz26_1, hfz26_2, hfz26_3⟩ := Ke4_ BK206.out
    go_wp2
    repeat (go_quiet (fail); try go_wp2)
    go_roundg k1
    case measure => have := HK1.out; omega
    case rel => exact ⟨(3), (by first | rfl | (simp; done) | (simp [*]; done)), H', ⟨by have := HK1.out; omega⟩, ⟨by exact Kq_ BK205⟩, ⟨by exact Kq_ BK206⟩, ⟨K2a_ HB GE205 GE206⟩⟩
   rw [if_neg c22] at H
   by_cases c30 : x5_1 = 3
   rotate_left
   ·rw [if_neg c30] at H
    exact absurd H (by simp)
   subst c30
   have H1 : (if a0_3 = a1_3 then (tenementref07_less.l0 k1 4 a0_0 a0_1 a0_2 a0_3 a1_0 a1_1 a1_2 a1_3) else (some (decide (a0_3 < a1_3)))) = some r := by rw [if_pos rfl] at H; (try simp only [show wrap64 ((3 : Int) + 1) = 4 from by first | rfl | decide | (unfold wrap64; omega), show wrap64 ((3 : Int) - 1) = 2 from by first | rfl | decide | (unfold wrap64; omega)] at H); exact H
   clear H
   have H := H1
   clear H1
   by_cases c31 : a0_3 = a1_3
   rotate_left
   ·rw [if_neg c31] at H
    have c31b0 : (a0_3 == a1_3) = false := beq_eq_false_iff_ne.mpr c31
    have c31b1 : (a0_3 != a1_3) = true := bne_iff_ne.mpr c31
    obtain rfl := Option.some.inj H
    have hnb35 := NB205_206.out
    have hnc35 := NB206_205.out
    obtain ⟨hcz36_0, hcz36_1, hcz36_2, hcz36_3, hfz36_0, hfz36_1, hfz36_2, hfz36_3⟩ := Ke4_ BK205.out
    obtain ⟨hcz37_0, hcz37_1, hcz37_2, hcz37_3, hfz37_0, hfz37_1, hfz37_2, hfz37_3⟩ := Ke4_ BK206.out
    go_wp2
    repeat (go_quiet (fail); try go_wp2)
    go_ret
    exact ⟨Kh_, K2a_ HB GE205 GE206⟩
   rw [if_pos c31] at H
   have c31b0 : (a0_3 == a1_3) = true := beq_iff_eq.mpr c31
   have c31b1 : (a0_3 != a1_3) = false := bne_eq_false_iff_eq.mpr c31
   clear c31
   have H' := Aside0.mk H
   clear H
   have hnb32 := NB205_206.out
   have hnc32 := NB206_205.out
   obtain ⟨hcz33_0, hcz33_1, hcz33_2, hcz33_3, hfz33_0, hfz33_1, hfz33_2, hfz33_3⟩ := Ke4_ BK205.out
   obtain ⟨hcz34_0, hcz34_1, hcz34_2, hcz34_3, hfz34_0, hfz34_1, hfz34_2, hfz34_3⟩ := Ke4_ BK206.out
   go_wp2
   repeat (go_quiet (fail); try go_wp2)
   go_roundg k1
   case measure => have := HK1.out; omega
   case rel => exact ⟨(4), (by first | rfl | (simp; done) | (simp [*]; done)), H', ⟨by have := HK1.out; omega⟩, ⟨by exact Kq_ BK205⟩, ⟨by exact Kq_ BK206⟩, ⟨K2a_ HB GE205 GE206⟩⟩
end Go.Proofs.Ythjhkcebcgdeoaa.Q

namespace Go.Proofs.Ythjhkcebcgdeoaa.Q
open Go.RowKit Go.Proofs.YthjhkcebcgdeoaaW.PrintWords Go.Proofs.YthjhkcebcgdeoaaW.PrintLast Go.Proofs.YthjhkcebcgdeoaaW.PrintMore
attribute [local go_sem] max2_int min2_int max_two min_two max_three min_three max_four min_four   -- for this text's walks alone
set_option linter.unusedVariables false
set_option linter.unusedSimpArgs false
attribute [local go_sem] ixA42_0 ixA42_1 ixA42_2 ixA42_3   -- for this text's walks alone
attribute [local go_sem high] eqA78
def tenementref07_Order.f (k : Nat) (a0_0 : Int) (a0_1 : Int) (a0_2 : Int) (a0_3 : Int) (a0_4 : Int) (a1_0 : Int) (a1_1 : Int) (a1_2 : Int) (a1_3 : Int) (a1_4 : Int) : Option (Int) := if ((a0_0 == a1_0 && (a0_1 == a1_1 && (a0_2 == a1_2 && (a0_3 == a1_3)))) && (a0_4 == a1_4)) = true then (some 0) else ((tenementref06_Sum.f a0_0 a0_1 a0_2 a0_3).bind fun t209 => ((tenementref06_Sum.f a1_0 a1_1 a1_2 a1_3).bind fun t210 => (if t209 < t210 then (some (-1)) else (if t209 = t210 then (if a0_4 < a1_4 then (some (-1)) else (if a0_4 = a1_4 then ((tenementref07_less.f k a0_0 a0_1 a0_2 a0_3 a1_0 a1_1 a1_2 a1_3).bind fun t211 => (if t211 = true then (some (-1)) else (some 1))) else (some 1))) else (some 1)))))
set_option maxHeartbeats 8000000 in
set_option maxRecDepth 100000 in
theorem tenementref07_Order.calls (k : Nat) (a0_0 : Int) (a0_1 : Int) (a0_2 : Int) (a0_3 : Int) (a0_4 : Int) (a1_0 : Int) (a1_1 : Int) (a1_2 : Int) (a1_3 : Int) (a1_4 : Int) (r : Int) (w : World) (h : tenementref07_Order.f k a0_0 a0_1 a0_2 a0_3 a0_4 a1_0 a1_1 a1_2 a1_3 a1_4 = some r) :
  Calls Try.prog 39 #[.agg #[.int .u64 a0_0, .int .u64 a0_1, .int .u64 a0_2, .int .u64 a0_3, .int .i64 a0_4], .agg #[.int .u64 a1_0, .int .u64 a1_1, .int .u64 a1_2, .int .u64 a1_3, .int .i64 a1_4]] w fun e w' => e = .returned (.int .i64 r) ∧ Below w.heap.size w w' := by
 have hu78 := Try.underlying78
 have hu42 := Try.underlying42
 have HB := Aside0.mk (Below.refl w.heap.size w)
 have H : (if ((a0_0 == a1_0 && (a0_1 == a1_1 && (a0_2 == a1_2 && (a0_3 == a1_3)))) && (a0_4 == a1_4)) = true then (some 0) else ((tenementref06_Sum.f a0_0 a0_1 a0_2 a0_3).bind fun t209 => ((tenementref06_Sum.f a1_0 a1_1 a1_2 a1_3).bind fun t210 => (if t209 < t210 then (some (-1)) else (if t209 = t210 then (if a0_4 < a1_4 then (some (-1)) else (if a0_4 = a1_4 then ((tenementref07_less.f k a0_0 a0_1 a0_2 a0_3 a1_0 a1_1 a1_2 a1_3).bind fun t211 => (if t211 = true then (some (-1)) else (some 1))) else (some 1))) else (some 1)))))) = some r := h
 clear h
 by_cases c3 : ((a0_0 == a1_0 && (a0_1 == a1_1 && (a0_2 == a1_2 && (a0_3 == a1_3)))) && (a0_4 == a1_4)) = true
 ·rw [if_pos c3] at H
  have c3b0 : ((a0_0 == a1_0 && (a0_1 == a1_1 && (a0_2 == a1_2 && (a0_3 == a1_3)))) && (a0_4 == a1_4)) = true := c3
  clear c3
  obtain rfl := Option.some.inj H
  go_enter Try.func39, Try.ntmps39
  go_wp2_with (first | ((with_reducible refine gate_dst (N := 2) rfl ?_); refine Ka_ 2 #[.int .u64 a0_0, .int .u64 a0_1, .int .u64 a0_2, .int .u64 a0_3, .int .i64 a0_4] 78 ?_; intro gb207 hg w4 hbox hb; have BK207 := Aside0.mk (hbox); have GW207 := Kw_ HB hg; have GE207 := GW207; replace HB := Ks_ HB hb; clear hb hbox hg) | ((with_reducible refine gate_dst (N := 3) rfl ?_); refine Ka_ 3 #[.int .u64 a1_0, .int .u64 a1_1, .int .u64 a1_2, .int .u64 a1_3, .int .i64 a1_4] 78 ?_; intro gb208 hg w5 hbox hb; have BK208 := Aside0.mk (hbox); have GW208 := Kw_ HB hg; have GE208 := GW208; have NB207_208 := Kl_ BK207 hg; have NB208_207 := Kr_ BK207 hg; replace BK207 := Kb_ BK207 hb; replace HB := Ks_ HB hb; clear hb hbox hg; have hnb6 := NB207_208.out; have hnc6 := NB208_207.out; obtain ⟨hcz7_0, hcz7_1, hcz7_2, hcz7_3, hcz7_4, hfz7_0, hfz7_1, hfz7_2, hfz7_3, hfz7_4⟩ := Ke5_ BK207.out; obtain ⟨hcz8_0, hcz8_1, hcz8_2, hcz8_3, hcz8_4, hfz8_0, hfz8_1, hfz8_2, hfz8_3, hfz8_4⟩ := Ke5_ BK208.out))
  go_ret
  exact ⟨Kh_, K2a_ HB GE207 GE208⟩
 rw [if_neg c3] at H
 have c3b0 : ((a0_0 == a1_0 && (a0_1 == a1_1 && (a0_2 == a1_2 && (a0_3 == a1_3)))) && (a0_4 == a1_4)) = false := by simpa using c3
 clear c3
 replace H := Option.bind_eq_some_iff.mp H
 obtain ⟨t209, A90, H⟩ := H
 replace H : ((tenementref06_Sum.f a1_0 a1_1 a1_2 a1_3).bind fun t210 => (if t209 < t210 then (some (-1)) else (if t209 = t210 then (if a0_4 < a1_4 then (some (-1)) else (if a0_4 = a1_4 then ((tenementref07_less.f k a0_0 a0_1 a0_2 a0_3 a1_0 a1_1 a1_2 a1_3).bind fun t211 => (if t211 = true then (some (-1)) else (some 1))) else (some 1))) else (some 1)))) = some r := H
 have A9 := Aside0.mk A90
 clear A90
 replace H := Option.bind_eq_some_iff.mp H
 obtain ⟨t210, A100, H⟩ := H
 replace H : (if t209 < t210 then (some (-1)) else (if t209 = t210 then (if a0_4 < a1_4 then (some (-1)) else (if a0_4 = a1_4 then ((tenementref07_less.f k a0_0 a0_1 a0_2 a0_3 a1_0 a1_1 a1_2 a1_3).bind fun t211 => (if t211 = true then (some (-1)) else (some 1))) else (some 1))) else (some 1))) = some r := H
 have A10 := Aside0.mk A100
 clear A100
 by_cases c11 : t209 < t210
 ·rw [if_pos c11] at H
  have c11b0 : decide (t209 < t210) = true := decide_eq_true c11
  clear c11
  obtain rfl := Option.some.inj H
  go_enter Try.func39, Try.ntmps39
  go_wp2_with (first | ((with_reducible refine gate_dst (N := 2) rfl ?_); refine Ka_ 2 #[.int .u64 a0_0, .int .u64 a0_1, .int .u64 a0_2, .int .u64 a0_3, .int .i64 a0_4] 78 ?_; intro gb207 hg w12 hbox hb; have BK207 := Aside0.mk (hbox); have GW207 := Kw_ HB hg; have GE207 := GW207; replace HB := Ks_ HB hb; clear hb hbox hg) | ((with_reducible refine gate_dst (N := 3) rfl ?_); refine Ka_ 3 #[.int .u64 a1_0, .int .u64 a1_1, .int .u64 a1_2, .int .u64 a1_3, .int .i64 a1_4] 78 ?_; intro gb208 hg w13 hbox hb; have BK208 := Aside0.mk (hbox); have GW208 := Kw_ HB hg; have GE208 := GW208; have NB207_208 := Kl_ BK207 hg; have NB208_207 := Kr_ BK207 hg; replace BK207 := Kb_ BK207 hb; replace HB := Ks_ HB hb; clear hb hbox hg; have hnb14 := NB207_208.out; have hnc14 := NB208_207.out; obtain ⟨hcz15_0, hcz15_1, hcz15_2, hcz15_3, hcz15_4, hfz15_0, hfz15_1, hfz15_2, hfz15_3, hfz15_4⟩ := Ke5_ BK207.out; obtain ⟨hcz16_0, hcz16_1, hcz16_2, hcz16_3, hcz16_4, hfz16_0, hfz16_1, hfz16_2, hfz16_3, hfz16_4⟩ := Ke5_ BK208.out) | ((with_reducible refine gate_callee (f := 68) rfl ?_); refine Kg_ (some 12) rfl rfl Try.func68 (by kernel_rfl) rfl #[.agg #[.int .u64 a0_0, .int .u64 a0_1, .int .u64 a0_2, .int .u64 a0_3]] rfl ?_; (with_reducible refine (tenementref06_Sum.calls a0_0 a0_1 a0_2 a0_3 t209 _ A9.out).mono ?_); rintro e w17 ⟨rfl, hb⟩; refine ⟨_, rfl, ?_⟩; replace BK207 := Kb_ BK207 hb; replace BK208 := Kb_ BK208 hb; replace HB := Ks_ HB hb; (try clear hb); (try clear hb2); (try clear hk); (try clear hi); obtain ⟨hcz18_0, hcz18_1, hcz18_2, hcz18_3, hcz18_4, hfz18_0, hfz18_1, hfz18_2, hfz18_3, hfz18_4⟩ := Ke5_ BK208.out) | ((with_reducible refine gate_callee (f := 68) rfl ?_); refine Kg_ (some 15) rfl rfl Try.func68 (by kernel_rfl) rfl #[.agg #[.int .u64 a1_0, .int .u64 a1_1, .int .u64 a1_2, .int .u64 a1_3]] rfl ?_; (with_reducible refine (tenementref06_Sum.calls a1_0 a1_1 a1_2 a1_3 t210 _ A10.out).mono ?_); rintro e w19 ⟨rfl, hb⟩; refine ⟨_, rfl, ?_⟩; replace BK207 := Kb_ BK207 hb; replace BK208 := Kb_ BK208 hb; replace HB := Ks_ HB hb; (try clear hb); (try clear hb2); (try clear hk); (try clear hi)))
  go_ret
  exact ⟨Kh_, K2a_ HB GE207 GE208⟩
 rw [if_neg c11] at H
 have c11b0 : decide (t209 < t210) = false := decide_eq_false c11
 clear c11
 by_cases c20 : t209 = t210
 rotate_left
 ·rw [if_neg c20] at H
  have c20b0 : (t209 == t210) = false := beq_eq_false_iff_ne.mpr c20
  have c20b1 : (t209 != t210) = true := bne_iff_ne.mpr c20
  obtain rfl := Option.some.inj H
  go_enter Try.func39, Try.ntmps39
  go_wp2_with (first | ((with_reducible refine gate_dst (N := 2) rfl ?_); refine Ka_ 2 #[.int .u64 a0_0, .int .u64 a0_1, .int .u64 a0_2, .int .u64 a0_3, .int .i64 a0_4] 78 ?_; intro gb207 hg w67 hbox hb; have BK207 := Aside0.mk (hbox); have GW207 := Kw_ HB hg; have GE207 := GW207; replace HB := Ks_ HB hb; clear hb hbox hg) | ((with_reducible refine gate_dst (N := 3) rfl ?_); refine Ka_ 3 #[.int .u64 a1_0, .int .u64 a1_1, .int .u64 a1_2, .int .u64 a1_3, .int .i64 a1_4] 78 ?_; intro gb208 hg w68 hbox hb; have BK208 := Aside0.mk (hbox); have GW208 := Kw_ HB hg; have GE208 := GW208; have NB207_208 := Kl_ BK207 hg; have NB208_207 := Kr_ BK207 hg; replace BK207 := Kb_ BK207 hb; replace HB := Ks_ HB hb; clear hb hbox hg; have hnb69 := NB207_208.out; have hnc69 := NB208_207.out; obtain ⟨hcz70_0, hcz70_1, hcz70_2, hcz70_3, hcz70_4, hfz70_0, hfz70_1, hfz70_2, hfz70_3, hfz70_4⟩ := Ke5_ BK207.out; obtain ⟨hcz71_0, hcz71_1, hcz71_2, hcz71_3, hcz71_4, hfz71_0, hfz71_1, hfz71_2, hfz71_3, hfz71_4⟩ := Ke5_ BK208.out) | ((with_reducible refine gate_callee (f := 68) rfl ?_); refine Kg_ (some 12) rfl rfl Try.func68 (by kernel_rfl) rfl #[.agg #[.int .u64 a0_0, .int .u64 a0_1, .int .u64 a0_2, .int .u64 a0_3]] rfl ?_; (with_reducible refine (tenementref06_Sum.calls a0_0 a0_1 a0_2 a0_3 t209 _ A9.out).mono ?_); rintro e w72 ⟨rfl, hb⟩; refine ⟨_, rfl, ?_⟩; replace BK207 := Kb_ BK207 hb; replace BK208 := Kb_ BK208 hb; replace HB := Ks_ HB hb; (try clear hb); (try clear hb2); (try clear hk); (try clear hi); obtain ⟨hcz73_0, hcz73_1, hcz73_2, hcz73_3, hcz73_4, hfz73_0, hfz73_1, hfz73_2, hfz73_3, hfz73_4⟩ := Ke5_ BK208.out) | ((with_reducible refine gate_callee (f := 68) rfl ?_); refine Kg_ (some 15) rfl rfl Try.func68 (by kernel_rfl) rfl #[.agg #[.int .u64 a1_0, .int .u64 a1_1, .int .u64 a1_2, .int .u64 a1_3]] rfl ?_; (with_reducible refine (tenementref06_Sum.calls a1_0 a1_1 a1_2 a1_3 t210 _ A10.out).mono ?_); rintro e w74 ⟨rfl, hb⟩; refine ⟨_, rfl, ?_⟩; replace BK207 := Kb_ BK207 hb; replace BK208 := Kb_ BK208 hb; replace HB := Ks_ HB hb; (try clear hb); (try clear hb2); (try clear hk); (try clear hi)))
  go_ret
  exact ⟨Kh_, K2a_ HB GE207 GE208⟩
 rw [if_pos c20] at H
 have c20b0 : (t209 == t210) = true := beq_iff_eq.mpr c20
 have c20b1 : (t209 != t210) = false := bne_eq_false_iff_eq.mpr c20
 clear c20
 by_cases c21 : a0_4 < a1_4
 ·rw [if_pos c21] at H
  have c21b0 : decide (a0_4 < a1_4) = true := decide_eq_true c21
  clear c21
  obtain rfl := Option.some.inj H
  go_enter Try.func39, Try.ntmps39
  go_wp2_with (first | ((with_reducible refine gate_dst (N := 2) rfl ?_); refine Ka_ 2 #[.int .u64 a0_0, .int .u64 a0_1, .int .u64 a0_2, .int .u64 a0_3, .int .i64 a0_4] 78 ?_; intro gb207 hg w22 hbox hb; have BK207 := Aside0.mk (hbox); have GW207 := Kw_ HB hg; have GE207 := GW207; replace HB := Ks_ HB hb; clear hb hbox hg) | ((with_reducible refine gate_dst (N := 3) rfl ?_); refine Ka_ 3 #[.int .u64 a1_0, .int .u64 a1_1, .int .u64 a1_2, .int .u64 a1_3, .int .i64 a1_4] 78 ?_; intro gb208 hg w23 hbox hb; have BK208 := Aside0.mk (hbox); have GW208 := Kw_ HB hg; have GE208 := GW208; have NB207_208 := Kl_ BK207 hg; have NB208_207 := Kr_ BK207 hg; replace BK207 := Kb_ BK207 hb; replace HB := Ks_ HB hb; clear hb hbox hg; have hnb24 := NB207_208.out; have hnc24 := NB208_207.out; obtain ⟨hcz25_0, hcz25_1, hcz25_2, hcz25_3, hcz25_4, hfz25_0, hfz25_1, hfz25_2, hfz25_3, hfz25_4⟩ := Ke5_ BK207.out; obtain ⟨hcz26_0, hcz26_1, hcz26_2, hcz26_3, hcz26_4, hfz26_0, hfz26_1, hfz26_2, hfz26_3, hfz26_4⟩ := Ke5_ BK208.out) | ((with_reducible refine gate_callee (f := 68) rfl ?_); refine Kg_ (some 12) rfl rfl Try.func68 (by kernel_rfl) rfl #[.agg #[.int .u64 a0_0, .int .u64 a0_1, .int .u64 a0_2, .int .u64 a0_3]] rfl ?_; (with_reducible refine (tenementref06_Sum.calls a0_0 a0_1 a0_2 a0_3 t209 _ A9.out).mono ?_); rintro e w27 ⟨rfl, hb⟩; refine ⟨_, rfl, ?_⟩; replace BK207 := Kb_ BK207 hb; replace BK208 := Kb_ BK208 hb; replace HB := Ks_ HB hb; (try clear hb); (try clear hb2); (try clear hk); (try clear hi); obtain ⟨hcz28_0, hcz28_1, hcz28_2, hcz28_3, hcz28_4, hfz28_0, hfz28_1, hfz28_2, hfz28_3, hfz28_4⟩ := Ke5_ BK208.out) | ((with_reducible refine gate_callee (f := 68) rfl ?_); refine Kg_ (some 15) rfl rfl Try.func68 (by kernel_rfl) rfl #[.agg #[.int .u64 a1_0, .int .u64 a1_1, .int .u64 a1_2, .int .u64 a1_3]] rfl ?_; (with_reducible refine (tenementref06_Sum.calls a1_0 a1_1 a1_2 a1_3 t210 _ A10.out).mono ?_); rintro e w29 ⟨rfl, hb⟩; refine ⟨_, rfl, ?_⟩; replace BK207 := Kb_ BK207 hb; replace BK208 := Kb_ BK208 hb; replace HB := Ks_ HB hb; (try clear hb); (try clear hb2); (try clear hk); (try clear hi); obtain ⟨hcz30_0, hcz30_1, hcz30_2, hcz30_3, hcz30_4, hfz30_0, hfz30_1, hfz30_2, hfz30_3, hfz30_4⟩ := Ke5_ BK207.out; obtain ⟨hcz31_0, hcz31_1, hcz31_2, hcz31_3, hcz31_4, hfz31_0, hfz31_1, hfz31_2, hfz31_3, hfz31_4⟩ := Ke5_ BK208.out))
  go_ret
  exact ⟨Kh_, K2a_ HB GE207 GE208⟩
 rw [if_neg c21] at H
 have c21b0 : decide (a0_4 < a1_4) = false := decide_eq_false c21
 clear c21
 by_cases c32 : a0_4 = a1_4
 rotate_left
 ·rw [if_neg c32] at H
  have c32b0 : (a0_4 == a1_4) = false := beq_eq_false_iff_ne.mpr c32
  have c32b1 : (a0_4 != a1_4) = true := bne_iff_ne.mpr c32
  obtain rfl := Option.some.inj H
  go_enter Try.func39, Try.ntmps39
  go_wp2_with (first | ((with_reducible refine gate_dst (N := 2) rfl ?_); refine Ka_ 2 #[.int .u64 a0_0, .int .u64 a0_1, .int .u64 a0_2, .int .u64 a0_3, .int .i64 a0_4] 78 ?_; intro gb207 hg w57 hbox hb; have BK207 := Aside0.mk (hbox); have GW207 := Kw_ HB hg; have GE207 := GW207; replace HB := Ks_ HB hb; clear hb hbox hg) | ((with_reducible refine gate_dst (N := 3) rfl ?_); refine Ka_ 3 #[.int .u64 a1_0, .int .u64 a1_1, .int .u64 a1_2, .int .u64 a1_3, .int .i64 a1_4] 78 ?_; intro gb208 hg w58 hbox hb; have BK208 := Aside0.mk (hbox); have GW208 := Kw_ HB hg; have GE208 := GW208; have NB207_208 := Kl_ BK207 hg; have NB208_207 := Kr_ BK207 hg; replace BK207 := Kb_ BK207 hb; replace HB := Ks_ HB hb; clear hb hbox hg; have hnb59 := NB207_208.out; have hnc59 := NB208_207.out; obtain ⟨hcz60_0, hcz60_1, hcz60_2, hcz60_3, hcz60_4, hfz60_0, hfz60_1, hfz60_2, hfz60_3, hfz60_4⟩ := Ke5_ BK207.out; obtain ⟨hcz61_0, hcz61_1, hcz61_2, hcz61_3, hcz61_4, hfz61_0, hfz61_1, hfz61_2, hfz61_3, hfz61_4⟩ := Ke5_ BK208.out) | ((with_reducible refine gate_callee (f := 68) rfl ?_); refine Kg_ (some 12) rfl rfl Try.func68 (by kernel_rfl) rfl #[.agg #[.int .u64 a0_0, .int .u64 a0_1, .int .u64 a0_2, .int .u64 a0_3]] rfl ?_; (with_reducible refine (tenementref06_Sum.calls a0_0 a0_1 a0_2 a0_3 t209 _ A9.out).mono ?_); rintro e w62 ⟨rfl, hb⟩; refine ⟨_, rfl, ?_⟩; replace BK207 := Kb_ BK207 hb; replace BK208 := Kb_ BK208 hb; replace HB := Ks_ HB hb; (try clear hb); (try clear hb2); (try clear hk); (try clear hi); obtain ⟨hcz63_0, hcz63_1, hcz63_2, hcz63_3, hcz63_4, hfz63_0, hfz63_1, hfz63_2, hfz63_3, hfz63_4⟩ := Ke5_ BK208.out) | ((with_reducible refine gate_callee (f := 68) rfl ?_); refine Kg_ (some 15) rfl rfl Try.func68 (by kernel_rfl) rfl #[.agg #[.int .u64 a1_0, .int .u64 a1_1, .int .u64 a1_2, .int .u64 a1_3]] rfl ?_; (with_reducible refine (tenementref06_Sum.calls a1_0 a1_1 a1_2 a1_3 t210 _ A10.out).mono ?_); rintro e w64 ⟨rfl, hb⟩; refine ⟨_, rfl, ?_⟩; replace BK207 := Kb_ BK207 hb; replace BK208 := Kb_ BK208 hb; replace HB := Ks_ HB hb; (try clear hb); (try clear hb2); (try clear hk); (try clear hi); obtain ⟨hcz65_0, hcz65_1, hcz65_2, hcz65_3, hcz65_4, hfz65_0, hfz65_1, hfz65_2, hfz65_3, hfz65_4⟩ := Ke5_ BK207.out; obtain ⟨hcz66_0, hcz66_1, hcz66_2, hcz66_3, hcz66_4, hfz66_0, hfz66_1, hfz66_2, hfz66_3, hfz66_4⟩ := Ke5_ BK208.out))
  go_ret
  exact ⟨Kh_, K2a_ HB GE207 GE208⟩
 rw [if_pos c32] at H
 have c32b0 : (a0_4 == a1_4) = true := beq_iff_eq.mpr c32
 have c32b1 : (a0_4 != a1_4) = false := bne_eq_false_iff_eq.mpr c32
 clear c32
 simp only [c32b0, Bool.and_true] at c3b0
 replace H := Option.bind_eq_some_iff.mp H
 obtain ⟨t211, A330, H⟩ := H
 replace H : (if t211 = true then (some (-1)) else (some 1)) = some r := H
 have A33 := Aside0.mk A330
 clear A330
 by_cases c34 : t211 = true
 ·subst c34
  have H1 : (some (-1)) = some r := by rw [if_pos rfl] at H; exact H
  clear H
  have H := H1
  clear H1
  obtain rfl := Option.some.inj H
  go_enter Try.func39, Try.ntmps39
  go_wp2_with (first | ((with_reducible refine gate_dst (N := 2) rfl ?_); refine Ka_ 2 #[.int .u64 a0_0, .int .u64 a0_1, .int .u64 a0_2, .int .u64 a0_3, .int .i64 a0_4] 78 ?_; intro gb207 hg w35 hbox hb; have BK207 := Aside0.mk (hbox); have GW207 := Kw_ HB hg; have GE207 := GW207; replace HB := Ks_ HB hb; clear hb hbox hg) | ((with_reducible refine gate_dst (N := 3) rfl ?_); refine Ka_ 3 #[.int .u64 a1_0, .int .u64 a1_1, .int .u64 a1_2, .int .u64 a1_3, .int .i64 a1_4] 78 ?_; intro gb208 hg w36 hbox hb; have BK208 := Aside0.mk (hbox); have GW208 := Kw_ HB hg; have GE208 := GW208; have NB207_208 := Kl_ BK207 hg; have NB208_207 := Kr_ BK207 hg; replace BK207 := Kb_ BK207 hb; replace HB := Ks_ HB hb; clear hb hbox hg; have hnb37 := NB207_208.out; have hnc37 := NB208_207.out; obtain ⟨hcz38_0, hcz38_1, hcz38_2, hcz38_3, hcz38_4, hfz38_0, hfz38_1, hfz38_2, hfz38_3, hfz38_4⟩ := Ke5_ BK207.out; obtain ⟨hcz39_0, hcz39_1, hcz39_2, hcz39_3, hcz39_4, hfz39_0, hfz39_1, hfz39_2, hfz39_3, hfz39_4⟩ := Ke5_ BK208.out) | ((with_reducible refine gate_callee (f := 68) rfl ?_); refine Kg_ (some 12) rfl rfl Try.func68 (by kernel_rfl) rfl #[.agg #[.int .u64 a0_0, .int .u64 a0_1, .int .u64 a0_2, .int .u64 a0_3]] rfl ?_; (with_reducible refine (tenementref06_Sum.calls a0_0 a0_1 a0_2 a0_3 t209 _ A9.out).mono ?_); rintro e w40 ⟨rfl, hb⟩; refine ⟨_, rfl, ?_⟩; replace BK207 := Kb_ BK207 hb; replace BK208 := Kb_ BK208 hb; replace HB := Ks_ HB hb; (try clear hb); (try clear hb2); (try clear hk); (try clear hi); obtain ⟨hcz41_0, hcz41_1, hcz41_2, hcz41_3, hcz41_4, hfz41_0, hfz41_1, hfz41_2, hfz41_3, hfz41_4⟩ := Ke5_ BK208.out) | ((with_reducible refine gate_callee (f := 68) rfl ?_); refine Kg_ (some 15) rfl rfl Try.func68 (by kernel_rfl) rfl #[.agg #[.int .u64 a1_0, .int .u64 a1_1, .int .u64 a1_2, .int .u64 a1_3]] rfl ?_; (with_reducible refine (tenementref06_Sum.calls a1_0 a1_1 a1_2 a1_3 t210 _ A10.out).mono ?_); rintro e w42 ⟨rfl, hb⟩; refine ⟨_, rfl, ?_⟩; replace BK207 := Kb_ BK207 hb; replace BK208 := Kb_ BK208 hb; replace HB := Ks_ HB hb; (try clear hb); (try clear hb2); (try clear hk); (try clear hi); obtain ⟨hcz43_0, hcz43_1, hcz43_2, hcz43_3, hcz43_4, hfz43_0, hfz43_1, hfz43_2, hfz43_3, hfz43_4⟩ := Ke5_ BK207.out; obtain ⟨hcz44_0, hcz44_1, hcz44_2, hcz44_3, hcz44_4, hfz44_0, hfz44_1, hfz44_2, hfz44_3, hfz44_4⟩ := Ke5_ BK208.out) | (go_at_call 69; (with_reducible refine (tenementref07_less.calls k a0_0 a0_1 a0_2 a0_3 a1_0 a1_1 a1_2 a1_3 true _ A33.out).mono ?_); rintro e w45 ⟨rfl, hb⟩; replace BK207 := Kb_ BK207 hb; replace BK208 := Kb_ BK208 hb; replace HB := Ks_ HB hb; (try clear hb); (try clear hb2); (try clear hk); (try clear hi)))
  go_ret
  exact ⟨Kh_, K2a_ HB GE207 GE208⟩
 replace c34 := Bool.eq_false_iff.mpr c34
 subst c34
 have H1 : (some 1) = some r := by rw [if_neg (show ¬ (false = true) by decide)] at H; exact H
 clear H
 have H := H1
 clear H1
 obtain rfl := Option.some.inj H
 go_enter Try.func39, Try.ntmps39
 go_wp2_with (first | ((with_reducible refine gate_dst (N := 2) rfl ?_); refine Ka_ 2 #[.int .u64 a0_0, .int .u64 a0_1, .int .u64 a0_2, .int .u64 a0_3, .int .i64 a0_4] 78 ?_; intro gb207 hg w46 hbox hb; have BK207 := Aside0.mk (hbox); have GW207 := Kw_ HB hg; have GE207 := GW207; replace HB := Ks_ HB hb; clear hb hbox hg) | ((with_reducible refine gate_dst (N := 3) rfl ?_); refine Ka_ 3 #[.int .u64 a1_0, .int .u64 a1_1, .int .u64 a1_2, .int .u64 a1_3, .int .i64 a1_4] 78 ?_; intro gb208 hg w47 hbox hb; have BK208 := Aside0.mk (hbox); have GW208 := Kw_ HB hg; have GE208 := GW208; have NB207_208 := Kl_ BK207 hg; have NB208_207 := Kr_ BK207 hg; replace BK207 := Kb_ BK207 hb; replace HB := Ks_ HB hb; clear hb hbox hg; have hnb48 := NB207_208.out; have hnc48 := NB208_207.out; obtain ⟨hcz49_0, hcz49_1, hcz49_2, hcz49_3, hcz49_4, hfz49_0, hfz49_1, hfz49_2, hfz49_3, hfz49_4⟩ := Ke5_ BK207.out; obtain ⟨hcz50_0, hcz50_1, hcz50_2, hcz50_3, hcz50_4, hfz50_0, hfz50_1, hfz50_2, hfz50_3, hfz50_4⟩ := Ke5_ BK208.out) | ((with_reducible refine gate_callee (f := 68) rfl ?_); refine Kg_ (some 12) rfl rfl Try.func68 (by kernel_rfl) rfl #[.agg #[.int .u64 a0_0, .int .u64 a0_1, .int .u64 a0_2, .int .u64 a0_3]] rfl ?_; (with_reducible refine (tenementref06_Sum.calls a0_0 a0_1 a0_2 a0_3 t209 _ A9.out).mono ?_); rintro e w51 ⟨rfl, hb⟩; refine ⟨_, rfl, ?_⟩; replace BK207 := Kb_ BK207 hb; replace BK208 := Kb_ BK208 hb; replace HB := Ks_ HB hb; (try clear hb); (try clear hb2); (try clear hk); (try clear hi); obtain ⟨hcz52_0, hcz52_1, hcz52_2, hcz52_3, hcz52_4, hfz52_0, hfz52_1, hfz52_2, hfz52_3, hfz52_4⟩ := Ke5_ BK208.out) | ((with_reducible refine gate_callee (f := 68) rfl ?_); refine Kg_ (some 15) rfl rfl Try.func68 (by kernel_rfl) rfl #[.agg #[.int .u64 a1_0, .int .u64 a1_1, .int .u64 a1_2, .int .u64 a1_3]] rfl ?_; (with_reducible refine (tenementref06_Sum.calls a1_0 a1_1 a1_2 a1_3 t210 _ A10.out).mono ?_); rintro e w53 ⟨rfl, hb⟩; refine ⟨_, rfl, ?_⟩; replace BK207 := Kb_ BK207 hb; replace BK208 := Kb_ BK208 hb; replace HB := Ks_ HB hb; (try clear hb); (try clear hb2); (try clear hk); (try clear hi); obtain ⟨hcz54_0, hcz54_1, hcz54_2, hcz54_3, hcz54_4, hfz54_0, hfz54_1, hfz54_2, hfz54_3, hfz54_4⟩ := Ke5_ BK207.out; obtain ⟨hcz55_0, hcz55_1, hcz55_2, hcz55_3, hcz55_4, hfz55_0, hfz55_1, hfz55_2, hfz55_3, hfz55_4⟩ := Ke5_ BK208.out) | (go_at_call 69; (with_reducible refine (tenementref07_less.calls k a0_0 a0_1 a0_2 a0_3 a1_0 a1_1 a1_2 a1_3 false _ A33.out).mono ?_); rintro e w56 ⟨rfl, hb⟩; replace BK207 := Kb_ BK207 hb; replace BK208 := Kb_ BK208 hb; replace HB := Ks_ HB hb; (try clear hb); (try clear hb2); (try clear hk); (try clear hi)))
 go_ret
 exact ⟨Kh_, K2a_ HB GE207 GE208⟩
end Go.Proofs.Ythjhkcebcgdeoaa.Q

namespace Go.Proofs.Ythjhkcebcgdeoaa.Q
open Go.RowKit Go.Proofs.YthjhkcebcgdeoaaW.PrintWords Go.Proofs.YthjhkcebcgdeoaaW.PrintLast Go.Proofs.YthjhkcebcgdeoaaW.PrintMore
attribute [local go_sem] max2_int min2_int max_two min_two max_three min_three max_four min_four   -- for this text's walks alone
set_option linter.unusedVariables false
set_option linter.unusedSimpArgs false
def tenementref06_Leq.l0 : Nat → Int → Int → Int → Int → Int → Int → Int → Int → Int → Option (Bool)
 | 0, _, _, _, _, _, _, _, _, _ => none
 | k + 1, x5, x117, x118, x119, x120, x121, x122, x123, x124 => if x5 < 4 then (if x5 = 0 then (if x117 > x121 then (some false) else (tenementref06_Leq.l0 k (wrap64 (x5 + 1)) x117 x118 x119 x120 x121 x122 x123 x124)) else (if x5 = 1 then (if x118 > x122 then (some false) else (tenementref06_Leq.l0 k (wrap64 (x5 + 1)) x117 x118 x119 x120 x121 x122 x123 x124)) else (if x5 = 2 then (if x119 > x123 then (some false) else (tenementref06_Leq.l0 k (wrap64 (x5 + 1)) x117 x118 x119 x120 x121 x122 x123 x124)) else (if x5 = 3 then (if x120 > x124 then (some false) else (tenementref06_Leq.l0 k (wrap64 (x5 + 1)) x117 x118 x119 x120 x121 x122 x123 x124)) else (none))))) else (some true)
def tenementref06_Leq.f (k : Nat) (a0_0 : Int) (a0_1 : Int) (a0_2 : Int) (a0_3 : Int) (a1_0 : Int) (a1_1 : Int) (a1_2 : Int) (a1_3 : Int) : Option (Bool) := tenementref06_Leq.l0 k 0 a0_0 a0_1 a0_2 a0_3 a1_0 a1_1 a1_2 a1_3
set_option maxHeartbeats 8000000 in
set_option maxRecDepth 100000 in
theorem tenementref06_Leq.calls (k : Nat) (a0_0 : Int) (a0_1 : Int) (a0_2 : Int) (a0_3 : Int) (a1_0 : Int) (a1_1 : Int) (a1_2 : Int) (a1_3 : Int) (r : Bool) (w : World) (h : tenementref06_Leq.f k a0_0 a0_1 a0_2 a0_3 a1_0 a1_1 a1_2 a1_3 = some r) :
  Calls Try.prog 70 #[.agg #[.int .u64 a0_0, .int .u64 a0_1, .int .u64 a0_2, .int .u64 a0_3], .agg #[.int .u64 a1_0, .int .u64 a1_1, .int .u64 a1_2, .int .u64 a1_3]] w fun e w' => e = .returned (.bool r) ∧ Below w.heap.size w w' := by
 have hu42 := Try.underlying42
 have HB := Aside0.mk (Below.refl w.heap.size w)
 have H : (tenementref06_Leq.l0 k 0 a0_0 a0_1 a0_2 a0_3 a1_0 a1_1 a1_2 a1_3) = some r := h
 clear h
 have H' := Aside0.mk H
 clear H
 go_enter Try.func70, Try.ntmps70
 go_wp2_with (first | ((with_reducible refine gate_dst (N := 2) rfl ?_); refine Ka_ 2 #[.int .u64 a0_0, .int .u64 a0_1, .int .u64 a0_2, .int .u64 a0_3] 42 ?_; intro gb212 hg w3 hbox hb; have BK212 := Aside0.mk (hbox); have GW212 := Kw_ HB hg; have GE212 := GW212; replace HB := Ks_ HB hb; clear hb hbox hg) | ((with_reducible refine gate_dst (N := 3) rfl ?_); refine Ka_ 3 #[.int .u64 a1_0, .int .u64 a1_1, .int .u64 a1_2, .int .u64 a1_3] 42 ?_; intro gb213 hg w4 hbox hb; have BK213 := Aside0.mk (hbox); have GW213 := Kw_ HB hg; have GE213 := GW213; have NB212_213 := Kl_ BK212 hg; have NB213_212 := Kr_ BK212 hg; replace BK212 := Kb_ BK212 hb; replace HB := Ks_ HB hb; clear hb hbox hg))
 repeat (go_quiet (first | ((with_reducible refine gate_dst (N := 2) rfl ?_); refine Ka_ 2 #[.int .u64 a0_0, .int .u64 a0_1, .int .u64 a0_2, .int .u64 a0_3] 42 ?_; intro gb212 hg w3 hbox hb; have BK212 := Aside0.mk (hbox); have GW212 := Kw_ HB hg; have GE212 := GW212; replace HB := Ks_ HB hb; clear hb hbox hg) | ((with_reducible refine gate_dst (N := 3) rfl ?_); refine Ka_ 3 #[.int .u64 a1_0, .int .u64 a1_1, .int .u64 a1_2, .int .u64 a1_3] 42 ?_; intro gb213 hg w4 hbox hb; have BK213 := Aside0.mk (hbox); have GW213 := Kw_ HB hg; have GE213 := GW213; have NB212_213 := Kl_ BK212 hg; have NB213_212 := Kr_ BK212 hg; replace BK212 := Kb_ BK212 hb; replace HB := Ks_ HB hb; clear hb hbox hg)); try go_wp2_with (first | ((with_reducible refine gate_dst (N := 2) rfl ?_); refine Ka_ 2 #[.int .u64 a0_0, .int .u64 a0_1, .int .u64 a0_2, .int .u64 a0_3] 42 ?_; intro gb212 hg w3 hbox hb; have BK212 := Aside0.mk (hbox); have GW212 := Kw_ HB hg; have GE212 := GW212; replace HB := Ks_ HB hb; clear hb hbox hg) | ((with_reducible refine gate_dst (N := 3) rfl ?_); refine Ka_ 3 #[.int .u64 a1_0, .int .u64 a1_1, .int .u64 a1_2, .int .u64 a1_3] 42 ?_; intro gb213 hg w4 hbox hb; have BK213 := Aside0.mk (hbox); have GW213 := Kw_ HB hg; have GE213 := GW213; have NB212_213 := Kl_ BK212 hg; have NB213_212 := Kr_ BK212 hg; replace BK212 := Kb_ BK212 hb; replace HB := Ks_ HB hb; clear hb hbox hg)))
 go_loopg [5] k (fun kq v5 w' => ∃ (x5_1 : Int), v5 = .int .i64 x5_1 ∧ Aside0 (tenementref06_Leq.l0 kq x5_1 a0_0 a0_1 a0_2 a0_3 a1_0 a1_1 a1_2 a1_3 = some r) ∧ Aside0 (kq ≤ k) ∧ Aside0 (w'.heap[gb212]? = some (.cells #[.int .u64 a0_0, .int .u64 a0_1, .int .u64 a0_2, .int .u64 a0_3] 42 (0, 0))) ∧ Aside0 (w'.heap[gb213]? = some (.cells #[.int .u64 a1_0, .int .u64 a1_1, .int .u64 a1_2, .int .u64 a1_3] 42 (0, 0))) ∧ Aside0 (Below w.heap.size w w'))
 case atStart => exact ⟨(0), (by first | rfl | (simp; done) | (simp [*]; done)), H', ⟨Nat.le_refl _⟩, ⟨by exact Kq_ BK212⟩, ⟨by exact Kq_ BK213⟩, ⟨K2a_ HB GE212 GE213⟩⟩
 case round =>
  clear H'
  try clear p2
  obtain ⟨x5_1, rfl, HA, HK1, BK212, BK213, HB⟩ := hrel
  cases gk with
  | zero => exact absurd HA.out (by simp [tenementref06_Leq.l0])
  | succ k1 =>
   have H := HA.out
   clear HA
   simp only [tenementref06_Leq.l0] at H
   by_cases c5 : x5_1 < 4
   rotate_left
   ·rw [if_neg c5] at H
    have c5b0 : decide (x5_1 < 4) = false := decide_eq_false c5
    clear c5
    obtain rfl := Option.some.inj H
    go_wp2
    repeat (go_quiet (fail); try go_wp2)
    go_ret
    exact ⟨Kh_, K2a_ HB GE212 GE213⟩
   rw [if_pos c5] at H
   have c5b0 : decide (x5_1 < 4) = true := decide_eq_true c5
   clear c5
   by_cases c6 : x5_1 = 0
   ·subst c6
    have H1 : (if a0_0 > a1_0 then (some false) else (tenementref06_Leq.l0 k1 1 a0_0 a0_1 a0_2 a0_3 a1_0 a1_1 a1_2 a1_3)) = some r := by rw [if_pos rfl] at H; (try simp only [show wrap64 ((0 : Int) + 1) = 1 from by first | rfl | decide | (unfold wrap64; omega), show wrap64 ((0 : Int) - 1) = -1 from by first | rfl | decide | (unfold wrap64; omega)] at H); exact H
    clear H
    have H := H1
    clear H1
    by_cases c7 : a0_0 > a1_0
    ·rw [if_pos c7] at H
     have c7b0 : decide (a1_0 < a0_0) = true := decide_eq_true c7
     clear c7
     obtain rfl := Option.some.inj H
     have hnb8 := NB212_213.out
     have hnc8 := NB213_212.out
     obtain ⟨hcz9_0, hcz9_1, hcz9_2, hcz9_3, hfz9_0, hfz9_1, hfz9_2, hfz9_3⟩ := Ke4_ BK212.out
     obtain ⟨hcz10_0, hcz10_1, hcz10_2, hcz10_3, hfz10_0, hfz10_1, hfz10_2, hfz10_3⟩ := Ke4_ BK213.out
     go_wp2
     repeat (go_quiet (fail); try go_wp2)
     go_ret
     exact ⟨Kh_, K2a_ HB GE212 GE213⟩
    rw [if_neg c7] at H
    have c7b0 : decide (a1_0 < a0_0) = false := decide_eq_false c7
    clear c7
    have H' := Aside0.mk H
    clear H
    have hnb11 := NB212_213.out
    have hnc11 := NB213_212.out
    obtain ⟨hcz12_0, hcz12_1, hcz12_2, hcz12_3, hfz12_0, hfz12_1, hfz12_2, hfz12_3⟩ := Ke4_ BK212.out
    obtain ⟨hcz13_0, hcz13_1, hcz13_2, hcz13_3, hfz13_0, hfz13_1, hfz13_2, hfz13_3⟩ := Ke4_ BK213.out
    go_wp2
    repeat (go_quiet (fail); try go_wp2)
    go_roundg k1
    case measure => have := HK1.out; omega
    case rel => exact ⟨(1), (by first | rfl | (simp; done) | (simp [*]; done)), H', ⟨by have := HK1.out; omega⟩, ⟨by exact Kq_ BK212⟩, ⟨by exact Kq_ BK213⟩, ⟨K2a_ HB GE212 GE213⟩⟩
   rw [if_neg c6] at H
   by_cases c14 : x5_1 = 1
   ·subst c14
    have H1 : (if a0_1 > a1_1 then (some false) else (tenementref06_Leq.l0 k1 2 a0_0 a0_1 a0_2 a0_3 a1_0 a1_1 a1_2 a1_3)) = some r := by rw [if_pos rfl] at H; (try simp only [show wrap64 ((1 : Int) + 1) = 2 from by first | rfl | decide | (unfold wrap64; omega), show wrap64 ((1 : Int) - 1) = 0 from by first | rfl | decide | (unfold wrap64; omega)] at H); exact H
    clear H
    have H := H1
    clear H1
    by_cases c15 : a0_1 > a1_1
    ·rw [if_pos c15] at H
     have c15b0 : decide (a1_1 < a0_1) = true := decide_eq_true c15
     clear c15
     obtain rfl := Option.some.inj H
     have hnb16 := NB212_213.out
     have hnc16 := NB213_212.out
     obtain ⟨hcz17_0, hcz17_1, hcz17_2, hcz17_3, hfz17_0, hfz17_1, hfz17_2, hfz17_3⟩ := Ke4_ BK212.out
     obtain ⟨hcz18_0, hcz18_1, hcz18_2, hcz18_3, hfz18_0, hfz18_1, hfz18_2, hfz18_3⟩ := Ke4_ BK213.out
     go_wp2
     repeat (go_quiet (fail); try go_wp2)
     go_ret
     exact ⟨Kh_, K2a_ HB GE212 GE213⟩
    rw [if_neg c15] at H
    have c15b0 : decide (a1_1 < a0_1) = false := decide_eq_false c15
    clear c15
    have H' := Aside0.mk H
    clear H
    have hnb19 := NB212_213.out
    have hnc19 := NB213_212.out
    obtain ⟨hcz20_0, hcz20_1, hcz20_2, hcz20_3, hfz20_0, hfz20_1, hfz20_2, hfz20_3⟩ := Ke4_ BK212.out
    obtain ⟨hcz21_0, hcz21_1, hcz21_2, hcz21_3, hfz21_0, hfz21_1, hfz21_2, hfz21_3⟩ := Ke4_ BK213.out
    go_wp2
    repeat (go_quiet (fail); try go_wp2)
    go_roundg k1
    case measure => have := HK1.out; omega
    case rel => exact ⟨(2), (by first | rfl | (simp; done) | (simp [*]; done)), H', ⟨by have := HK1.out; omega⟩, ⟨by exact Kq_ BK212⟩, ⟨by exact Kq_ BK213⟩, ⟨K2a_ HB GE212 GE213⟩⟩
   rw [if_neg c14] at H
   by_cases c22 : x5_1 = 2
   ·subst c22
    have H1 : (if a0_2 > a1_2 then (some false) else (tenementref06_Leq.l0 k1 3 a0_0 a0_1 a0_2 a0_3 a1_0 a1_1 a1_2 a1_3)) = some r := by rw [if_pos rfl] at H; (try simp only [show wrap64 ((2 : Int) + 1) = 3 from by first | rfl | decide | (unfold wrap64; omega), show wrap64 ((2 : Int) - 1) = 1 from by first | rfl | decide | (unfold wrap64; omega)] at H); exact H
    clear H
    have H := H1
    clear H1
    by_cases c23 : a0_2 > a1_2
    ·rw [if_pos c23] at H
     have c23b0 : decide (a1_2 < a0_2) = true := decide_eq_true c23
     clear c23
     obtain rfl := Option.some.inj H
     have hnb24 := NB212_213.out
     have hnc24 := NB213_212.out
     obtain ⟨hcz25_0, hcz25_1, hcz25_2, hcz25_3, hfz25_0, hfz25_1, hfz25_2, hfz25_3⟩ := Ke4_ BK212.out
     obtain ⟨hcz26_0, hcz26_1, hcz26_2, hcz26_3, hfz26_0, hfz26_1, hfz26_2, hfz26_3⟩ := Ke4_ BK213.out
     go_wp2
     repeat (go_quiet (fail); try go_wp2)
     go_ret
     exact ⟨Kh_, K2a_ HB GE212 GE213⟩
    rw [if_neg c23] at H
    have c23b0 : decide (a1_2 < a0_2) = false := decide_eq_false c23
    clear c23
    have H' := Aside0.mk H
    clear H
    have hnb27 := NB212_213.out
    have hnc27 := NB213_212.out
    obtain ⟨hcz28_0, hcz28_1, hcz28_2, hcz28_3, hfz28_0, hfz28_1, hfz28_2, hfz28_3⟩ := Ke4_ BK212.out
    obtain ⟨hcz29_0, hcz29_1, hcz29_2, hcz29_3, hfz29_0, hfz29_1, hfz29_2, hfz29_3⟩ := Ke4_ BK213.out
    go_wp2
    repeat (go_quiet (fail); try go_wp2)
    go_roundg k1
    case measure => have := HK1.out; omega
    case rel => exact ⟨(3), (by first | rfl | (simp; done) | (simp [*]; done)), H', ⟨by have := HK1.out; omega⟩, ⟨by exact Kq_ BK212⟩, ⟨by exact Kq_ BK213⟩, ⟨K2a_ HB GE212 GE213⟩⟩
   rw [if_neg c22] at H
   by_cases c30 : x5_1 = 3
   rotate_left
   ·rw [if_neg c30] at H
    exact absurd H (by simp)
   subst c30
   have H1 : (if a0_3 > a1_3 then (some false) else (tenementref06_Leq.l0 k1 4 a0_0 a0_1 a0_2 a0_3 a1_0 a1_1 a1_2 a1_3)) = some r := by rw [if_pos rfl] at H; (try simp only [show wrap64 ((3 : Int) + 1) = 4 from by first | rfl | decide | (unfold wrap64; omega), show wrap64 ((3 : Int) - 1) = 2 from by first | rfl | decide | (unfold wrap64; omega)] at H); exact H
   clear H
   have H := H1
   clear H1
   by_cases c31 : a0_3 > a1_3
   ·rw [if_pos c31] at H
    have c31b0 : decide (a1_3 < a0_3) = true := decide_eq_true c31
    clear c31
    obtain rfl := Option.some.inj H
    have hnb32 := NB212_213.out
    have hnc32 := NB213_212.out
    obtain ⟨hcz33_0, hcz33_1, hcz33_2, hcz33_3, hfz33_0, hfz33_1, hfz33_2, hfz33_3⟩ := Ke4_ BK212.out
    obtain ⟨hcz34_0, hcz34_1, hcz34_2, hcz34_3, hfz34_0, hfz34_1, hfz34_2, hfz34_3⟩ := Ke4_ BK213.out
    go_wp2
    repeat (go_quiet (fail); try go_wp2)
    go_ret
    exact ⟨Kh_, K2a_ HB GE212 GE213⟩
   rw [if_neg c31] at H
   have c31b0 : decide (a1_3 < a0_3) = false := decide_eq_false c31
   clear c31
   have H' := Aside0.mk H
   clear H
   have hnb35 := NB212_213.out
   have hnc35 := NB213_212.out
   obtain ⟨hcz36_0, hcz36_1, hcz36_2, hcz36_3, hfz36_0, hfz36_1, hfz36_2, hfz36_3⟩ := Ke4_ BK212.out
   obtain ⟨hcz37_0, hcz37_1, hcz37_2, hcz37_3, hfz37_0, hfz37_1, hfz37_2, hfz37_3⟩ := Ke4_ BK213.out
   go_wp2
   repeat (go_quiet (fail); try go_wp2)
   go_roundg k1
   case measure => have := HK1.out; omega
   case rel => exact ⟨(4), (by first | rfl | (simp; done) | (simp [*]; done)), H', ⟨by have := HK1.out; omega⟩, ⟨by exact Kq_ BK212⟩, ⟨by exact Kq_ BK213⟩, ⟨K2a_ HB GE212 GE213⟩⟩
def tenementref07_Seen.f (k : Nat) (a0_0 : Int) (a0_1 : Int) (a0_2 : Int) (a0_3 : Int) (a0_4 : Int) (a1_0 : Int) (a1_1 : Int) (a1_2 : Int) (a1_3 : Int) : Option (Bool) := (tenementref06_Leq.f k a0_0 a0_1 a0_2 a0_3 a1_0 a1_1 a1_2 a1_3).bind fun t216 => (some t216)
set_option maxHeartbeats 8000000 in
set_option maxRecDepth 100000 in
theorem tenementref07_Seen.calls (k : Nat) (a0_0 : Int) (a0_1 : Int) (a0_2 : Int) (a0_3 : Int) (a0_4 : Int) (a1_0 : Int) (a1_1 : Int) (a1_2 : Int) (a1_3 : Int) (r : Bool) (w : World) (h : tenementref07_Seen.f k a0_0 a0_1 a0_2 a0_3 a0_4 a1_0 a1_1 a1_2 a1_3 = some r) :
  Calls Try.prog 44 #[.agg #[.int .u64 a0_0, .int .u64 a0_1, .int .u64 a0_2, .int .u64 a0_3, .int .i64 a0_4], .agg #[.int .u64 a1_0, .int .u64 a1_1, .int .u64 a1_2, .int .u64 a1_3]] w fun e w' => e = .returned (.bool r) ∧ Below w.heap.size w w' := by
 have hu78 := Try.underlying78
 have hu42 := Try.underlying42
 have HB := Aside0.mk (Below.refl w.heap.size w)
 have H : ((tenementref06_Leq.f k a0_0 a0_1 a0_2 a0_3 a1_0 a1_1 a1_2 a1_3).bind fun t216 => (some t216)) = some r := h
 clear h
 replace H := Option.bind_eq_some_iff.mp H
 obtain ⟨t216, A30, H⟩ := H
 replace H : (some t216) = some r := H
 have A3 := Aside0.mk A30
 clear A30
 obtain rfl := Option.some.inj H
 go_enter Try.func44, Try.ntmps44
 go_wp2_with (first | ((with_reducible refine gate_dst (N := 2) rfl ?_); refine Ka_ 2 #[.int .u64 a0_0, .int .u64 a0_1, .int .u64 a0_2, .int .u64 a0_3, .int .i64 a0_4] 78 ?_; intro gb214 hg w4 hbox hb; have BK214 := Aside0.mk (hbox); have GW214 := Kw_ HB hg; have GE214 := GW214; replace HB := Ks_ HB hb; clear hb hbox hg) | ((with_reducible refine gate_dst (N := 3) rfl ?_); refine Ka_ 3 #[.int .u64 a1_0, .int .u64 a1_1, .int .u64 a1_2, .int .u64 a1_3] 42 ?_; intro gb215 hg w5 hbox hb; have BK215 := Aside0.mk (hbox); have GW215 := Kw_ HB hg; have GE215 := GW215; have NB214_215 := Kl_ BK214 hg; have NB215_214 := Kr_ BK214 hg; replace BK214 := Kb_ BK214 hb; replace HB := Ks_ HB hb; clear hb hbox hg; have hnb6 := NB214_215.out; have hnc6 := NB215_214.out; obtain ⟨hcz7_0, hcz7_1, hcz7_2, hcz7_3, hcz7_4, hfz7_0, hfz7_1, hfz7_2, hfz7_3, hfz7_4⟩ := Ke5_ BK214.out; obtain ⟨hcz8_0, hcz8_1, hcz8_2, hcz8_3, hfz8_0, hfz8_1, hfz8_2, hfz8_3⟩ := Ke4_ BK215.out) | ((with_reducible refine gate_callee (f := 70) rfl ?_); refine Kg_ (some 8) rfl rfl Try.func70 (by kernel_rfl) rfl #[.agg #[.int .u64 a0_0, .int .u64 a0_1, .int .u64 a0_2, .int .u64 a0_3], .agg #[.int .u64 a1_0, .int .u64 a1_1, .int .u64 a1_2, .int .u64 a1_3]] rfl ?_; (with_reducible refine (tenementref06_Leq.calls k a0_0 a0_1 a0_2 a0_3 a1_0 a1_1 a1_2 a1_3 t216 _ A3.out).mono ?_); rintro e w9 ⟨rfl, hb⟩; refine ⟨_, rfl, ?_⟩; replace BK214 := Kb_ BK214 hb; replace BK215 := Kb_ BK215 hb; replace HB := Ks_ HB hb; (try clear hb); (try clear hb2); (try clear hk); (try clear hi)))
 go_ret
 exact ⟨Kh_, K2a_ HB GE214 GE215⟩
def tenementref06_At.f (a0_0 a0_1 a0_2 a0_3 n : Int) : Option Int := some (if n = 1 then a0_0 else if n = 2 then a0_1 else if n = 3 then a0_2 else if n = 4 then a0_3 else 0)
set_option maxHeartbeats 8000000 in
set_option maxRecDepth 100000 in
theorem tenementref06_At.calls (a0_0 a0_1 a0_2 a0_3 n : Int) (r : Int) (w : World) (h : tenementref06_At.f a0_0 a0_1 a0_2 a0_3 n = some r) :
  Calls Try.prog 42 #[.agg #[.int .u64 a0_0, .int .u64 a0_1, .int .u64 a0_2, .int .u64 a0_3], .int .i64 n] w fun e w' => e = .returned (.int .u64 r) ∧ Below w.heap.size w w' := by
 unfold tenementref06_At.f at h
 obtain rfl := Option.some.inj h
 clear h
 have hu := Try.underlying42
 by_cases c0 : n = 1
 ·subst c0
  go_enter Try.func42, Try.ntmps42
  go_wp2
  go_ret
  exact ⟨by first | rfl | simp, by first | exact below_alloc (Below.refl _ _) _ | (repeat (first | exact Below.refl _ _ | apply below_alloc | apply pw_below_drewN | apply below_drew1))⟩
 by_cases c1 : n = 2
 ·subst c1
  go_enter Try.func42, Try.ntmps42
  go_wp2
  go_ret
  exact ⟨by first | rfl | simp, by first | exact below_alloc (Below.refl _ _) _ | (repeat (first | exact Below.refl _ _ | apply below_alloc | apply pw_below_drewN | apply below_drew1))⟩
 by_cases c2 : n = 3
 ·subst c2
  go_enter Try.func42, Try.ntmps42
  go_wp2
  go_ret
  exact ⟨by first | rfl | simp, by first | exact below_alloc (Below.refl _ _) _ | (repeat (first | exact Below.refl _ _ | apply below_alloc | apply pw_below_drewN | apply below_drew1))⟩
 by_cases c3 : n = 4
 ·subst c3
  go_enter Try.func42, Try.ntmps42
  go_wp2
  go_ret
  exact ⟨by first | rfl | simp, by first | exact below_alloc (Below.refl _ _) _ | (repeat (first | exact Below.refl _ _ | apply below_alloc | apply pw_below_drewN | apply below_drew1))⟩
 rw [if_neg c0, if_neg c1, if_neg c2, if_neg c3]
 have b1 : (decide (1 ≤ n) = false ∧ decide (n < 1) = true) ∨ (decide (1 ≤ n) = true ∧ decide (n < 1) = false ∧ decide (n ≤ 4) = false ∧ decide (4 < n) = true) := by
  by_cases h : 1 ≤ n
  ·exact Or.inr ⟨decide_eq_true h, decide_eq_false (by omega), decide_eq_false (by omega), decide_eq_true (by omega)⟩
  ·exact Or.inl ⟨decide_eq_false h, decide_eq_true (by omega)⟩
 clear c0 c1 c2 c3
 rcases b1 with ⟨b1, b2⟩ | ⟨b1, b2, b3, b4⟩
 ·go_enter Try.func42, Try.ntmps42
  go_wp2
  go_ret
  exact ⟨by first | rfl | simp, by first | exact below_alloc (Below.refl _ _) _ | (repeat (first | exact Below.refl _ _ | apply below_alloc | apply pw_below_drewN | apply below_drew1))⟩
 ·go_enter Try.func42, Try.ntmps42
  go_wp2
  go_ret
  exact ⟨by first | rfl | simp, by first | exact below_alloc (Below.refl _ _) _ | (repeat (first | exact Below.refl _ _ | apply below_alloc | apply pw_below_drewN | apply below_drew1))⟩
def tenementref07_Stamp_N.f (a0_0 : Int) (a0_1 : Int) (a0_2 : Int) (a0_3 : Int) (a0_4 : Int) : Option (Int) := (tenementref06_At.f a0_0 a0_1 a0_2 a0_3 a0_4).bind fun t287 => (some t287)
set_option maxHeartbeats 8000000 in
set_option maxRecDepth 100000 in
theorem tenementref07_Stamp_N.calls (a0_0 : Int) (a0_1 : Int) (a0_2 : Int) (a0_3 : Int) (a0_4 : Int) (r : Int) (w : World) (h : tenementref07_Stamp_N.f a0_0 a0_1 a0_2 a0_3 a0_4 = some r) :
  Calls Try.prog 43 #[.agg #[.int .u64 a0_0, .int .u64 a0_1, .int .u64 a0_2, .int .u64 a0_3, .int .i64 a0_4]] w fun e w' => e = .returned (.int .u64 r) ∧ Below w.heap.size w w' := by
 have hu78 := Try.underlying78
 have hu42 := Try.underlying42
 have HB := Aside0.mk (Below.refl w.heap.size w)
 have H : ((tenementref06_At.f a0_0 a0_1 a0_2 a0_3 a0_4).bind fun t287 => (some t287)) = some r := h
 clear h
 replace H := Option.bind_eq_some_iff.mp H
 obtain ⟨t287, A20, H⟩ := H
 replace H : (some t287) = some r := H
 have A2 := Aside0.mk A20
 clear A20
 obtain rfl := Option.some.inj H
 go_enter Try.func43, Try.ntmps43
 go_wp2_with (first | ((with_reducible refine gate_dst (N := 1) rfl ?_); refine Ka_ 1 #[.int .u64 a0_0, .int .u64 a0_1, .int .u64 a0_2, .int .u64 a0_3, .int .i64 a0_4] 78 ?_; intro gb286 hg w3 hbox hb; have BK286 := Aside0.mk (hbox); have GW286 := Kw_ HB hg; have GE286 := GW286; replace HB := Ks_ HB hb; clear hb hbox hg; obtain ⟨hcz4_0, hcz4_1, hcz4_2, hcz4_3, hcz4_4, hfz4_0, hfz4_1, hfz4_2, hfz4_3, hfz4_4⟩ := Ke5_ BK286.out) | ((with_reducible refine gate_callee (f := 42) rfl ?_); refine Kg_ (some 7) rfl rfl Try.func42 (by kernel_rfl) rfl #[.agg #[.int .u64 a0_0, .int .u64 a0_1, .int .u64 a0_2, .int .u64 a0_3], .int .i64 a0_4] rfl ?_; (with_reducible refine (tenementref06_At.calls a0_0 a0_1 a0_2 a0_3 a0_4 t287 _ A2.out).mono ?_); rintro e w5 ⟨rfl, hb⟩; refine ⟨_, rfl, ?_⟩; replace BK286 := Kb_ BK286 hb; replace HB := Ks_ HB hb; (try clear hb); (try clear hb2); (try clear hk); (try clear hi)))
 go_ret
 exact ⟨Kh_, Kz_ HB GE286⟩
mutual
def tenementref22_Closed.l0 : Nat → List (S81) → Int → Int → Int → Int → Int → Option (Bool)
 | 0, _, _, _, _, _, _ => none
 | k + 1, x0, x5, x105, x106, x107, x108 => if x5 ≤ 4 then ((tenementref06_At.f x105 x106 x107 x108 x5).bind fun t289 => (if t289 > 4096 then (some false) else (tenementref22_Closed.l1 k x0 x5 t289 1 x105 x106 x107 x108))) else (some true)
def tenementref22_Closed.l1 : Nat → List (S81) → Int → Int → Int → Int → Int → Int → Int → Option (Bool)
 | 0, _, _, _, _, _, _, _, _ => none
 | k + 1, x0, x5, x6, x7, x105, x106, x107, x108 => if x7 ≤ x6 then (tenementref22_Closed.l2 k x0 x5 x6 x7 false 0 x105 x106 x107 x108) else (tenementref22_Closed.l0 k x0 (wrap64 (x5 + 1)) x105 x106 x107 x108)
def tenementref22_Closed.l2 : Nat → List (S81) → Int → Int → Int → Bool → Int → Int → Int → Int → Int → Option (Bool)
 | 0, _, _, _, _, _, _, _, _, _, _ => none
 | k + 1, x0, x5, x6, x7, x8, x9, x105, x106, x107, x108 => if x9 < (x0.length : Int) then (if 0 ≤ x9 then (if ((rd_T81 x0 x9).f0.f1) = x5 then ((tenementref07_Stamp_N.f ((rd_T81 x0 x9).f0.f0.f0) ((rd_T81 x0 x9).f0.f0.f1) ((rd_T81 x0 x9).f0.f0.f2) ((rd_T81 x0 x9).f0.f0.f3) ((rd_T81 x0 x9).f0.f1)).bind fun t292 => (tenementref22_Closed.j3 k x0 x5 x6 x7 x8 x9 (t292 == x7) x105 x106 x107 x108)) else (tenementref22_Closed.j3 k x0 x5 x6 x7 x8 x9 false x105 x106 x107 x108)) else (none)) else (if x8 = true then (tenementref22_Closed.l1 k x0 x5 x6 (IntKind.u64.wrap (x7 + 1)) x105 x106 x107 x108) else (some false))
def tenementref22_Closed.j3 : Nat → List (S81) → Int → Int → Int → Bool → Int → Bool → Int → Int → Int → Int → Option (Bool)
 | 0, _, _, _, _, _, _, _, _, _, _, _ => none
 | k + 1, x0, x5, x6, x7, x8, x9, x47, x105, x106, x107, x108 => if x47 = true then (if 0 ≤ x9 then (if x9 < (x0.length : Int) then ((tenementref07_Seen.f k ((rd_T81 x0 x9).f0.f0.f0) ((rd_T81 x0 x9).f0.f0.f1) ((rd_T81 x0 x9).f0.f0.f2) ((rd_T81 x0 x9).f0.f0.f3) ((rd_T81 x0 x9).f0.f1) x105 x106 x107 x108).bind fun t294 => (if t294 = true then (tenementref22_Closed.l2 k x0 x5 x6 x7 true (wrap64 (x9 + 1)) x105 x106 x107 x108) else (some false))) else (none)) else (none)) else (tenementref22_Closed.l2 k x0 x5 x6 x7 x8 (wrap64 (x9 + 1)) x105 x106 x107 x108)
end
def tenementref22_Closed.f (k : Nat) (l0 : List (S81)) (a1_0 : Int) (a1_1 : Int) (a1_2 : Int) (a1_3 : Int) : Option (Bool) := tenementref22_Closed.l0 k l0 1 a1_0 a1_1 a1_2 a1_3
def tenementref22_Closed.T16 : Bool × List (List Nat × List Nat) := (true, [([], []), ([], []), ([0, 1], [0, 1]), ([2], [2]), ([3], [3]), ([], []), ([4, 5], [4, 5]), ([6], [6])])
def tenementref22_Closed.B16 : List Nat := [0, 0, 3, 7, 15, 0, 63, 127]
theorem tenementref22_Closed.tab16 : rtab .any (opsOf Try.f21 16) = tenementref22_Closed.T16 := by kernel_rfl
theorem tenementref22_Closed.bits16 : waitsOk tenementref22_Closed.T16.2 tenementref22_Closed.B16 = true := by kernel_rfl
set_option maxHeartbeats 8000000 in
set_option maxRecDepth 100000 in
theorem tenementref22_Closed.calls (k : Nat) (A0 : Option Addr) (c0 : Nat) (l0 : List (S81)) (a1_0 : Int) (a1_1 : Int) (a1_2 : Int) (a1_3 : Int) (r : Bool) (w : World) (hr0 : Kd.C k81 w A0 l0.length l0) (hc0 : l0.length ≤ c0) (h : tenementref22_Closed.f k l0 a1_0 a1_1 a1_2 a1_3 = some r) :
  Calls Try.prog 21 #[.slice A0 l0.length c0, .agg #[.int .u64 a1_0, .int .u64 a1_1, .int .u64 a1_2, .int .u64 a1_3]] w fun e w' => e = .returned (.bool r) ∧ Below w.heap.size w w' := by
 have hu42 := Try.underlying42
 have hu78 := Try.underlying78
 have HR0 := Aside0.mk hr0
 have HC0 := Aside0.mk hc0
 clear hr0 hc0
 have HB := Aside0.mk (Below.refl w.heap.size w)
 have H : (tenementref22_Closed.l0 k l0 1 a1_0 a1_1 a1_2 a1_3) = some r := h
 clear h
 have H' := Aside0.mk H
 clear H
 go_enter Try.func21, Try.ntmps21
 go_wp2_with (first | ((with_reducible refine gate_dst (N := 3) rfl ?_); refine Ka_ 3 #[.int .u64 a1_0, .int .u64 a1_1, .int .u64 a1_2, .int .u64 a1_3] 42 ?_; intro gb288 hg w3 hbox hb; have BK288 := Aside0.mk (hbox); have GW288 := Kw_ HB hg; have GE288 := GW288; replace HB := Ks_ HB hb; clear hb hbox hg))
 go_loopg [5] k (fun kq v5 w' => ∃ (x5_1 : Int), v5 = .int .i64 x5_1 ∧ Aside0 (tenementref22_Closed.l0 kq l0 x5_1 a1_0 a1_1 a1_2 a1_3 = some r) ∧ Aside0 (kq ≤ k) ∧ Aside0 (w'.heap[gb288]? = some (.cells #[.int .u64 a1_0, .int .u64 a1_1, .int .u64 a1_2, .int .u64 a1_3] 42 (0, 0))) ∧ Aside0 (Below w.heap.size w w'))
 case atStart => exact ⟨(1), (by first | rfl | (simp; done) | (simp [*]; done)), H', ⟨Nat.le_refl _⟩, ⟨by exact Kq_ BK288⟩, ⟨Kz_ HB GE288⟩⟩
 case round =>
  clear H'
  try clear c2
  try clear p2
  obtain ⟨x5_1, rfl, HA, HK1, BK288, HB⟩ := hrel
  cases gk with
  | zero => exact absurd HA.out (by simp [tenementref22_Closed.l0])
  | succ k1 =>
   have H := HA.out
   clear HA
   simp only [tenementref22_Closed.l0] at H
   by_cases c4 : x5_1 ≤ 4
   rotate_left
   ·rw [if_neg c4] at H
    have c4b0 : decide (x5_1 ≤ 4) = false := decide_eq_false c4
    clear c4
    obtain rfl := Option.some.inj H
    go_wp2
    go_ret
    exact ⟨Kh_, Kz_ HB GE288⟩
   rw [if_pos c4] at H
   have c4b0 : decide (x5_1 ≤ 4) = true := decide_eq_true c4
   clear c4
   replace H := Option.bind_eq_some_iff.mp H
   obtain ⟨t289, A50, H⟩ := H
   replace H : (if t289 > 4096 then (some false) else (tenementref22_Closed.l1 k1 l0 x5_1 t289 1 a1_0 a1_1 a1_2 a1_3)) = some r := H
   have A5 := Aside0.mk A50
   clear A50
   by_cases c6 : t289 > 4096
   ·rw [if_pos c6] at H
    have c6b0 : decide (4096 < t289) = true := decide_eq_true c6
    clear c6
    obtain rfl := Option.some.inj H
    obtain ⟨hcz7_0, hcz7_1, hcz7_2, hcz7_3, hfz7_0, hfz7_1, hfz7_2, hfz7_3⟩ := Ke4_ BK288.out
    go_wp2_with (first | ((with_reducible refine gate_callee (f := 42) rfl ?_); refine Kg_ (some 16) rfl rfl Try.func42 (by kernel_rfl) rfl #[.agg #[.int .u64 a1_0, .int .u64 a1_1, .int .u64 a1_2, .int .u64 a1_3], .int .i64 x5_1] rfl ?_; (with_reducible refine (tenementref06_At.calls a1_0 a1_1 a1_2 a1_3 x5_1 t289 _ A5.out).mono ?_); rintro e w8 ⟨rfl, hb⟩; refine ⟨_, rfl, ?_⟩; replace BK288 := Kb_ BK288 hb; replace HB := Ks_ HB hb; (try clear hb); (try clear hb2); (try clear hk); (try clear hi)))
    go_ret
    exact ⟨Kh_, Kz_ HB GE288⟩
   rw [if_neg c6] at H
   have c6b0 : decide (4096 < t289) = false := decide_eq_false c6
   clear c6
   have H' := Aside0.mk H
   clear H
   obtain ⟨hcz9_0, hcz9_1, hcz9_2, hcz9_3, hfz9_0, hfz9_1, hfz9_2, hfz9_3⟩ := Ke4_ BK288.out
   go_wp2_with (first | ((with_reducible refine gate_callee (f := 42) rfl ?_); refine Kg_ (some 16) rfl rfl Try.func42 (by kernel_rfl) rfl #[.agg #[.int .u64 a1_0, .int .u64 a1_1, .int .u64 a1_2, .int .u64 a1_3], .int .i64 x5_1] rfl ?_; (with_reducible refine (tenementref06_At.calls a1_0 a1_1 a1_2 a1_3 x5_1 t289 _ A5.out).mono ?_); rintro e w10 ⟨rfl, hb⟩; refine ⟨_, rfl, ?_⟩; replace BK288 := Kb_ BK288 hb; replace HB := Ks_ HB hb; (try clear hb); (try clear hb2); (try clear hk); (try clear hi)))
   go_loopg [7] k1 (fun kq v7 w' => ∃ (x7_2 : Int), v7 = .int .u64 x7_2 ∧ Aside0 (tenementref22_Closed.l1 kq l0 x5_1 t289 x7_2 a1_0 a1_1 a1_2 a1_3 = some r) ∧ Aside0 (kq ≤ k1) ∧ Aside0 (w'.heap[gb288]? = some (.cells #[.int .u64 a1_0, .int .u64 a1_1, .int .u64 a1_2, .int .u64 a1_3] 42 (0, 0))) ∧ Aside0 (Below w.heap.size w w'))
   case atStart => exact ⟨(1), (by first | rfl | (simp; done) | (simp [*]; done)), H', ⟨Nat.le_refl _⟩, ⟨by exact Kq_ BK288⟩, ⟨Kz_ HB GE288⟩⟩
   case round =>
    clear H'
    try clear c2
    try clear p2
    try clear c4
    try clear c4b0
    try clear c6
    try clear c6b0
    try clear hcz7_0
    try clear hcz7_1
    try clear hcz7_2
    try clear hcz7_3
    try clear hcz9_0
    try clear hcz9_1
    try clear hcz9_2
    try clear hcz9_3
    try clear hfz7_0
    try clear hfz7_1
    try clear hfz7_2
    try clear hfz7_3
    try clear hfz9_0
    try clear hfz9_1
    try clear hfz9_2
    try clear hfz9_3
    try clear p2
    obtain ⟨x7_2, rfl, HA, HK2, BK288, HB⟩ := hrel
    cases gk with
    | zero => exact absurd HA.out (by simp [tenementref22_Closed.l1])
    | succ k2 =>
     have H := HA.out
     clear HA
     simp only [tenementref22_Closed.l1] at H
     by_cases c11 : x7_2 ≤ t289
     rotate_left
     ·rw [if_neg c11] at H
      have c11b0 : decide (x7_2 ≤ t289) = false := decide_eq_false c11
      clear c11
      have H' := Aside0.mk H
      clear H
      go_wp2
      go_roundg k2
      case measure => have := HK1.out; have := HK2.out; omega
      case rel => exact ⟨(wrap64 (x5_1 + 1)), (by first | rfl | (simp; done) | (simp [*]; done)), H', ⟨by have := HK1.out; have := HK2.out; omega⟩, ⟨by exact Kq_ BK288⟩, ⟨Kz_ HB GE288⟩⟩
     rw [if_pos c11] at H
     have c11b0 : decide (x7_2 ≤ t289) = true := decide_eq_true c11
     clear c11
     have H' := Aside0.mk H
     clear H
     go_wp2
     go_loopg [8, 9] k2 (fun kq v8 v9 w' => ∃ (x8_3 : Bool) (x9_3 : Int), v8 = .bool x8_3 ∧ v9 = .int .i64 x9_3 ∧ Aside0 (tenementref22_Closed.l2 kq l0 x5_1 t289 x7_2 x8_3 x9_3 a1_0 a1_1 a1_2 a1_3 = some r) ∧ Aside0 (kq ≤ k2) ∧ Aside0 (w'.heap[gb288]? = some (.cells #[.int .u64 a1_0, .int .u64 a1_1, .int .u64 a1_2, .int .u64 a1_3] 42 (0, 0))) ∧ Aside0 (Below w.heap.size w w'))
     case atStart => exact ⟨(false), (0), (by first | rfl | (simp; done) | (simp [*]; done)), (by first | rfl | (simp; done) | (simp [*]; done)), H', ⟨Nat.le_refl _⟩, ⟨by exact Kq_ BK288⟩, ⟨Kz_ HB GE288⟩⟩
     case round =>
      clear H'
      try clear c1
      try clear c2
      try clear p2
      try clear c4
      try clear c4b0
      try clear c6
      try clear c6b0
      try clear c11
      try clear c11b0
      try clear hcz7_0
      try clear hcz7_1
      try clear hcz7_2
      try clear hcz7_3
      try clear hcz9_0
      try clear hcz9_1
      try clear hcz9_2
      try clear hcz9_3
      try clear hfz7_0
      try clear hfz7_1
      try clear hfz7_2
      try clear hfz7_3
      try clear hfz9_0
      try clear hfz9_1
      try clear hfz9_2
      try clear hfz9_3
      try clear p2
      obtain ⟨x8_3, x9_3, rfl, rfl, HA, HK3, BK288, HB⟩ := hrel
      cases gk with
      | zero => exact absurd HA.out (by simp [tenementref22_Closed.l2])
      | succ k3 =>
       have H := HA.out
       clear HA
       simp only [tenementref22_Closed.l2] at H
       by_cases c12 : x9_3 < (l0.length : Int)
       rotate_left
       ·rw [if_neg c12] at H
        have c12b0 : decide (x9_3 < (l0.length : Int)) = false := decide_eq_false c12
        clear c12
        by_cases c27 : x8_3 = true
        rotate_left
        ·replace c27 := Bool.eq_false_iff.mpr c27
         subst c27
         have H1 : (some false) = some r := by rw [if_neg (show ¬ (false = true) by decide)] at H; exact H
         clear H
         have H := H1
         clear H1
         obtain rfl := Option.some.inj H
         go_wp2
         go_ret
         exact ⟨Kh_, Kz_ HB GE288⟩
        subst c27
        have H1 : (tenementref22_Closed.l1 k3 l0 x5_1 t289 (IntKind.u64.wrap (x7_2 + 1)) a1_0 a1_1 a1_2 a1_3) = some r := by rw [if_pos rfl] at H; exact H
        clear H
        have H := H1
        clear H1
        have H' := Aside0.mk H
        clear H
        go_wp2
        go_roundg k3
        case measure => have := HK1.out; have := HK2.out; have := HK3.out; omega
        case rel => exact ⟨(IntKind.u64.wrap (x7_2 + 1)), (by first | rfl | (simp; done) | (simp [*]; done)), H', ⟨by have := HK1.out; have := HK2.out; have := HK3.out; omega⟩, ⟨by exact Kq_ BK288⟩, ⟨Kz_ HB GE288⟩⟩
       rw [if_pos c12] at H
       have c12b0 : decide (x9_3 < (l0.length : Int)) = true := decide_eq_true c12
       clear c12
       have HC13 := Aside0.mk H
       clear H
       go_upto_region 14 with (fail)
       go_cut [47] (fun v47 wc => ∃ (kq : Nat) (x47_12 : Bool), v47 = .bool x47_12 ∧ Aside0 (tenementref22_Closed.j3 kq l0 x5_1 t289 x7_2 x8_3 x9_3 x47_12 a1_0 a1_1 a1_2 a1_3 = some r) ∧ Aside0 (kq ≤ k3) ∧ Aside0 (wc.heap[gb288]? = some (.cells #[.int .u64 a1_0, .int .u64 a1_1, .int .u64 a1_2, .int .u64 a1_3] 42 (0, 0))) ∧ Aside0 (Below w.heap.size w wc))
       case first =>
        have H := HC13.out
        clear HC13
        by_cases c14 : 0 ≤ x9_3
        rotate_left
        ·rw [if_neg c14] at H
         exact absurd H (by simp)
        rw [if_pos c14] at H
        have c14b0 : decide (0 ≤ x9_3) = true := decide_eq_true c14
        clear c14
        (first | rw [c14b0] | (simp only [i64_w, i32_w]; rw [c14b0]) | skip)
        by_cases c15 : ((rd_T81 l0 x9_3).f0.f1) = x5_1
        rotate_left
        ·rw [if_neg c15] at H
         have c15b0 : (((rd_T81 l0 x9_3).f0.f1) == x5_1) = false := beq_eq_false_iff_ne.mpr c15
         have c15b1 : (((rd_T81 l0 x9_3).f0.f1) != x5_1) = true := bne_iff_ne.mpr c15
         have H' := Aside0.mk H
         clear H
         have p290 : 0 ≤ (x9_3 : Int) := of_decide_eq_true (by first | (with_reducible assumption) | assumption)
         have q290 : x9_3 < (l0.length : Int) := of_decide_eq_true (by first | (with_reducible assumption) | assumption)
         obtain ⟨ad290, A290_5, c290_5, e290, hx290_0, hx290_1, hx290_2, hx290_3, hx290_4, hx290_5, hl290_5, hi290_5⟩ := at_T81 HR0.out x9_3 p290 q290
         cases e290
         replace hx290_0 := (HB.out.cell (World.block_lt_of_cell? w _ hx290_0)).trans hx290_0
         replace hx290_1 := (HB.out.cell (World.block_lt_of_cell? w _ hx290_1)).trans hx290_1
         replace hx290_2 := (HB.out.cell (World.block_lt_of_cell? w _ hx290_2)).trans hx290_2
         replace hx290_3 := (HB.out.cell (World.block_lt_of_cell? w _ hx290_3)).trans hx290_3
         replace hx290_4 := (HB.out.cell (World.block_lt_of_cell? w _ hx290_4)).trans hx290_4
         replace hx290_5 := (HB.out.cell (World.block_lt_of_cell? w _ hx290_5)).trans hx290_5
         have HR290_5 := Aside0.mk hi290_5
         have HC290_5 := Aside0.mk hl290_5
         clear hi290_5 hl290_5
         replace p290 := eq_true p290
         replace q290 := eq_true q290
         go_wp2
         go_meet
         case rel => exact ⟨_, (false), (by first | rfl | (simp; done) | (simp [*]; done)), H', ⟨by have := HK1.out; have := HK2.out; have := HK3.out; first | omega | exact Nat.le_refl _⟩, ⟨by exact Kq_ BK288⟩, ⟨Kz_ HB GE288⟩⟩
        rw [if_pos c15] at H
        have c15b0 : (((rd_T81 l0 x9_3).f0.f1) == x5_1) = true := beq_iff_eq.mpr c15
        have c15b1 : (((rd_T81 l0 x9_3).f0.f1) != x5_1) = false := bne_eq_false_iff_eq.mpr c15
        clear c15
        replace H := Option.bind_eq_some_iff.mp H
        obtain ⟨t292, A160, H⟩ := H
        replace H : (tenementref22_Closed.j3 k3 l0 x5_1 t289 x7_2 x8_3 x9_3 (t292 == x7_2) a1_0 a1_1 a1_2 a1_3) = some r := H
        have A16 := Aside0.mk A160
        clear A160
        have H' := Aside0.mk H
        clear H
        have p290 : 0 ≤ (x9_3 : Int) := of_decide_eq_true (by first | (with_reducible assumption) | assumption)
        have q290 : x9_3 < (l0.length : Int) := of_decide_eq_true (by first | (with_reducible assumption) | assumption)
        obtain ⟨ad290, A290_5, c290_5, e290, hx290_0, hx290_1, hx290_2, hx290_3, hx290_4, hx290_5, hl290_5, hi290_5⟩ := at_T81 HR0.out x9_3 p290 q290
        cases e290
        replace hx290_0 := (HB.out.cell (World.block_lt_of_cell? w _ hx290_0)).trans hx290_0
        replace hx290_1 := (HB.out.cell (World.block_lt_of_cell? w _ hx290_1)).trans hx290_1
        replace hx290_2 := (HB.out.cell (World.block_lt_of_cell? w _ hx290_2)).trans hx290_2
        replace hx290_3 := (HB.out.cell (World.block_lt_of_cell? w _ hx290_3)).trans hx290_3
        replace hx290_4 := (HB.out.cell (World.block_lt_of_cell? w _ hx290_4)).trans hx290_4
        replace hx290_5 := (HB.out.cell (World.block_lt_of_cell? w _ hx290_5)).trans hx290_5
        have HR290_5 := Aside0.mk hi290_5
        have HC290_5 := Aside0.mk hl290_5
        clear hi290_5 hl290_5
        replace p290 := eq_true p290
        replace q290 := eq_true q290
        have p291 : 0 ≤ (x9_3 : Int) := of_decide_eq_true (by first | (with_reducible assumption) | assumption)
        have q291 : x9_3 < (l0.length : Int) := of_decide_eq_true (by first | (with_reducible assumption) | assumption)
        obtain ⟨ad291, A291_5, c291_5, e291, hx291_0, hx291_1, hx291_2, hx291_3, hx291_4, hx291_5, hl291_5, hi291_5⟩ := at_T81 HR0.out x9_3 p291 q291
        obtain rfl : ad290 = ad291 := (by injection e291)
        replace hx291_0 := (HB.out.cell (World.block_lt_of_cell? w _ hx291_0)).trans hx291_0
        replace hx291_1 := (HB.out.cell (World.block_lt_of_cell? w _ hx291_1)).trans hx291_1
        replace hx291_2 := (HB.out.cell (World.block_lt_of_cell? w _ hx291_2)).trans hx291_2
        replace hx291_3 := (HB.out.cell (World.block_lt_of_cell? w _ hx291_3)).trans hx291_3
        replace hx291_4 := (HB.out.cell (World.block_lt_of_cell? w _ hx291_4)).trans hx291_4
        replace hx291_5 := (HB.out.cell (World.block_lt_of_cell? w _ hx291_5)).trans hx291_5
        have HR291_5 := Aside0.mk hi291_5
        have HC291_5 := Aside0.mk hl291_5
        clear hi291_5 hl291_5
        replace p291 := eq_true p291
        replace q291 := eq_true q291
        have ea_ := Option.some.inj (hx290_5.symm.trans hx291_5)
        injection ea_ with ea_ en_ ec_
        subst ea_
        subst ec_
        clear en_
        go_wp2_with (first | (go_at_call 43; (with_reducible refine (tenementref07_Stamp_N.calls ((rd_T81 l0 x9_3).f0.f0.f0) ((rd_T81 l0 x9_3).f0.f0.f1) ((rd_T81 l0 x9_3).f0.f0.f2) ((rd_T81 l0 x9_3).f0.f0.f3) ((rd_T81 l0 x9_3).f0.f1) t292 _ A16.out).mono ?_); rintro e w17 ⟨rfl, hb⟩; replace BK288 := Kb_ BK288 hb; replace HB := Ks_ HB hb; (try clear hb); (try clear hb2); (try clear hk); (try clear hi)))
        go_meet
        case rel => exact ⟨_, ((t292 == x7_2)), (by first | rfl | (simp; done) | (simp [*]; done)), H', ⟨by have := HK1.out; have := HK2.out; have := HK3.out; first | omega | exact Nat.le_refl _⟩, ⟨by exact Kq_ BK288⟩, ⟨Kz_ HB GE288⟩⟩
       case rest =>
        clear HC13
        try clear c1
        try clear c2
        try clear p2
        try clear q2
        try clear hx2
        try clear c4
        try clear c4b0
        try clear c6
        try clear c6b0
        try clear c11
        try clear c11b0
        try clear c12
        try clear c12b0
        try clear c14
        try clear c14b0
        try clear c15
        try clear c15b0
        try clear c15b1
        try clear hcz7_0
        try clear hcz7_1
        try clear hcz7_2
        try clear hcz7_3
        try clear hcz9_0
        try clear hcz9_1
        try clear hcz9_2
        try clear hcz9_3
        try clear hfz7_0
        try clear hfz7_1
        try clear hfz7_2
        try clear hfz7_3
        try clear hfz9_0
        try clear hfz9_1
        try clear hfz9_2
        try clear hfz9_3
        try clear hx290_0
        try clear hx290_1
        try clear hx290_2
        try clear hx290_3
        try clear hx290_4
        try clear hx290_5
        try clear hx291_0
        try clear hx291_1
        try clear hx291_2
        try clear hx291_3
        try clear hx291_4
        try clear hx291_5
        try clear p2
        try clear p290
        try clear p291
        try clear q290
        try clear q291
        obtain ⟨kq, x47_12, rfl, HA, HJ12, BK288, HB⟩ := hcut
        cases kq with
        | zero => exact absurd HA.out (by simp [tenementref22_Closed.j3])
        | succ kj12 =>
         have H := HA.out
         clear HA
         simp only [tenementref22_Closed.j3] at H
         by_cases c18 : x47_12 = true
         rotate_left
         ·replace c18 := Bool.eq_false_iff.mpr c18
          subst c18
          have H1 : (tenementref22_Closed.l2 kj12 l0 x5_1 t289 x7_2 x8_3 (wrap64 (x9_3 + 1)) a1_0 a1_1 a1_2 a1_3) = some r := by rw [if_neg (show ¬ (false = true) by decide)] at H; exact H
          clear H
          have H := H1
          clear H1
          have H' := Aside0.mk H
          clear H
          go_wp2
          go_roundg kj12
          case measure => have := HK1.out; have := HK2.out; have := HK3.out; have := HJ12.out; omega
          case rel => exact ⟨(x8_3), (wrap64 (x9_3 + 1)), (by first | rfl | (simp; done) | (simp [*]; done)), (by first | rfl | (simp; done) | (simp [*]; done)), H', ⟨by have := HK1.out; have := HK2.out; have := HK3.out; have := HJ12.out; omega⟩, ⟨by exact Kq_ BK288⟩, ⟨Kz_ HB GE288⟩⟩
         subst c18
         have H1 : (if 0 ≤ x9_3 then (if x9_3 < (l0.length : Int) then ((tenementref07_Seen.f kj12 ((rd_T81 l0 x9_3).f0.f0.f0) ((rd_T81 l0 x9_3).f0.f0.f1) ((rd_T81 l0 x9_3).f0.f0.f2) ((rd_T81 l0 x9_3).f0.f0.f3) ((rd_T81 l0 x9_3).f0.f1) a1_0 a1_1 a1_2 a1_3).bind fun t294 => (if t294 = true then (tenementref22_Closed.l2 kj12 l0 x5_1 t289 x7_2 true (wrap64 (x9_3 + 1)) a1_0 a1_1 a1_2 a1_3) else (some false))) else (none)) else (none)) = some r := by rw [if_pos rfl] at H; exact H
         clear H
         have H := H1
         clear H1
         by_cases c19 : 0 ≤ x9_3
         rotate_left
         ·rw [if_neg c19] at H
          exact absurd H (by simp)
         rw [if_pos c19] at H
         have c19b0 : decide (0 ≤ x9_3) = true := decide_eq_true c19
         clear c19
         by_cases c20 : x9_3 < (l0.length : Int)
         rotate_left
         ·rw [if_neg c20] at H
          exact absurd H (by simp)
         rw [if_pos c20] at H
         have c20b0 : decide (x9_3 < (l0.length : Int)) = true := decide_eq_true c20
         clear c20
         replace H := Option.bind_eq_some_iff.mp H
         obtain ⟨t294, A210, H⟩ := H
         replace H : (if t294 = true then (tenementref22_Closed.l2 kj12 l0 x5_1 t289 x7_2 true (wrap64 (x9_3 + 1)) a1_0 a1_1 a1_2 a1_3) else (some false)) = some r := H
         have A21 := Aside0.mk A210
         clear A210
         by_cases c22 : t294 = true
         rotate_left
         ·replace c22 := Bool.eq_false_iff.mpr c22
          subst c22
          have H1 : (some false) = some r := by rw [if_neg (show ¬ (false = true) by decide)] at H; exact H
          clear H
          have H := H1
          clear H1
          obtain rfl := Option.some.inj H
          try go_wp2
          replace BK288 := Kd_ BK288
          replace HB := Aside0.mk (below_drew1 HB.out)
          have p293 : 0 ≤ (x9_3 : Int) := of_decide_eq_true (by first | (with_reducible assumption) | assumption)
          have q293 : x9_3 < (l0.length : Int) := of_decide_eq_true (by first | (with_reducible assumption) | assumption)
          obtain ⟨ad293, A293_5, c293_5, e293, hx293_0, hx293_1, hx293_2, hx293_3, hx293_4, hx293_5, hl293_5, hi293_5⟩ := at_T81 HR0.out x9_3 p293 q293
          have hw293_5 := hx293_5
          have hw293_4 := hx293_4
          have hw293_3 := hx293_3
          have hw293_2 := hx293_2
          have hw293_1 := hx293_1
          have hw293_0 := hx293_0
          cases e293
          replace hx293_0 := (HB.out.cell (World.block_lt_of_cell? w _ hx293_0)).trans hx293_0
          replace hx293_1 := (HB.out.cell (World.block_lt_of_cell? w _ hx293_1)).trans hx293_1
          replace hx293_2 := (HB.out.cell (World.block_lt_of_cell? w _ hx293_2)).trans hx293_2
          replace hx293_3 := (HB.out.cell (World.block_lt_of_cell? w _ hx293_3)).trans hx293_3
          replace hx293_4 := (HB.out.cell (World.block_lt_of_cell? w _ hx293_4)).trans hx293_4
          replace hx293_5 := (HB.out.cell (World.block_lt_of_cell? w _ hx293_5)).trans hx293_5
          have HR293_5 := Aside0.mk hi293_5
          have HC293_5 := Aside0.mk hl293_5
          clear hi293_5 hl293_5
          replace p293 := eq_true p293
          replace q293 := eq_true q293
          refine start_ (n := 8) (S := fun w' => w'.cell? ⟨gb288, 0, none⟩ = some (.int .u64 a1_0) ∧ w'.cell? ⟨gb288, 1, none⟩ = some (.int .u64 a1_1) ∧ w'.cell? ⟨gb288, 2, none⟩ = some (.int .u64 a1_2) ∧ w'.cell? ⟨gb288, 3, none⟩ = some (.int .u64 a1_3) ∧ w'.cell? (ad293.add ((x9_3).toNat * 6)) = some (.int .u64 ((rd_T81 l0 x9_3).f0.f0.f0)) ∧ w'.cell? ⟨(ad293.add ((x9_3).toNat * 6)).block, (ad293.add ((x9_3).toNat * 6)).off + 1, none⟩ = some (.int .u64 ((rd_T81 l0 x9_3).f0.f0.f1)) ∧ w'.cell? ⟨(ad293.add ((x9_3).toNat * 6)).block, (ad293.add ((x9_3).toNat * 6)).off + 2, none⟩ = some (.int .u64 ((rd_T81 l0 x9_3).f0.f0.f2)) ∧ w'.cell? ⟨(ad293.add ((x9_3).toNat * 6)).block, (ad293.add ((x9_3).toNat * 6)).off + 3, none⟩ = some (.int .u64 ((rd_T81 l0 x9_3).f0.f0.f3)) ∧ w'.cell? ⟨(ad293.add ((x9_3).toNat * 6)).block, (ad293.add ((x9_3).toNat * 6)).off + 4, none⟩ = some (.int .i64 ((rd_T81 l0 x9_3).f0.f1)) ∧ w'.cell? ⟨(ad293.add ((x9_3).toNat * 6)).block, (ad293.add ((x9_3).toNat * 6)).off + 5, none⟩ = some (.slice A293_5 ((rd_T81 l0 x9_3).f1).length c293_5)) (ds := []) (mB_ 8 0) (by kernel_rfl) rfl rfl ⟨Km_ BK288 0, Km_ BK288 1, Km_ BK288 2, Km_ BK288 3, ((HB.out.cell (World.block_lt_of_cell? w _ hw293_0)).trans hw293_0), ((HB.out.cell (World.block_lt_of_cell? w _ hw293_1)).trans hw293_1), ((HB.out.cell (World.block_lt_of_cell? w _ hw293_2)).trans hw293_2), ((HB.out.cell (World.block_lt_of_cell? w _ hw293_3)).trans hw293_3), ((HB.out.cell (World.block_lt_of_cell? w _ hw293_4)).trans hw293_4), ((HB.out.cell (World.block_lt_of_cell? w _ hw293_5)).trans hw293_5)⟩ (fun hHeld => ?_); refine with_tabW tenementref22_Closed.tab16 tenementref22_Closed.bits16 (fun HT_ HW_ => ?_)
          generalize wc.drew = w25 at BK288 HB HR293_5 hx293_0 hx293_1 hx293_2 hx293_3 hx293_4 hx293_5 hHeld ⊢
          refine Kp_ 0 48 (mB_ 8 1) (any_of HT_.out (by kernel_rfl)) ?_
          refine Kp_ 1 49 (mB_ 8 3) (any_of HT_.out (by kernel_rfl)) ?_
          refine Kp_ 2 50 (mB_ 8 7) (any_of HT_.out (by kernel_rfl)) ?_
          refine Kp_ 3 51 (mB_ 8 15) (any_of HT_.out (by kernel_rfl)) ?_
          refine Ko_ 4 52 (mB_ 8 31) (take_ofW HT_.out HW_.out (by kernel_rfl)) hHeld ?_
          refine Ko_ 5 53 (mB_ 8 63) (take_ofW HT_.out HW_.out (by kernel_rfl)) hHeld ?_
          refine one_ (i := 6) (N := some 54) (mB_ 8 127) rfl rfl (one_of HT_.out (by kernel_rfl)) (by decide) (fun K hK => ?_)
          refine goes_ Try.func44 (by kernel_rfl) rfl #[.agg #[.int .u64 ((rd_T81 l0 x9_3).f0.f0.f0), .int .u64 ((rd_T81 l0 x9_3).f0.f0.f1), .int .u64 ((rd_T81 l0 x9_3).f0.f0.f2), .int .u64 ((rd_T81 l0 x9_3).f0.f0.f3), .int .i64 ((rd_T81 l0 x9_3).f0.f1)], .agg #[.int .u64 a1_0, .int .u64 a1_1, .int .u64 a1_2, .int .u64 a1_3]] (by rfl) rfl rfl (by (try simp only [List.map_toArray, List.map_cons, List.map_nil]); first | done | rfl | (simp only [List.length_drop, List.length_take]; rfl)) ?_
          with_reducible refine (tenementref07_Seen.calls kj12 ((rd_T81 l0 x9_3).f0.f0.f0) ((rd_T81 l0 x9_3).f0.f0.f1) ((rd_T81 l0 x9_3).f0.f0.f2) ((rd_T81 l0 x9_3).f0.f0.f3) ((rd_T81 l0 x9_3).f0.f1) a1_0 a1_1 a1_2 a1_3 false _ A21.out).mono ?_
          rintro e w26 ⟨rfl, hb⟩
          refine ⟨_, rfl, ?_⟩
          replace BK288 := Kb_ BK288 hb
          replace HB := Ks_ HB hb
          (try clear hb)
          (try clear hb2)
          (try clear hk)
          (try clear hi)
          refine hK.out _ _ ⟨Km_ BK288 0, Km_ BK288 1, Km_ BK288 2, Km_ BK288 3, ((HB.out.cell (World.block_lt_of_cell? w _ hw293_0)).trans hw293_0), ((HB.out.cell (World.block_lt_of_cell? w _ hw293_1)).trans hw293_1), ((HB.out.cell (World.block_lt_of_cell? w _ hw293_2)).trans hw293_2), ((HB.out.cell (World.block_lt_of_cell? w _ hw293_3)).trans hw293_3), ((HB.out.cell (World.block_lt_of_cell? w _ hw293_4)).trans hw293_4), ((HB.out.cell (World.block_lt_of_cell? w _ hw293_5)).trans hw293_5)⟩ (fun hHeld => ?_)
          clear hK K
          refine Kn_ 54 ?_
          refine Kp_ 7 55 (mB_ 8 255) (any_of HT_.out (by kernel_rfl)) ?_
          refine done_ (done_of HT_.out (by kernel_rfl)) ?_
          try go_wp2
          go_ret
          exact ⟨Kh_, Kz_ HB GE288⟩
         subst c22
         have H1 : (tenementref22_Closed.l2 kj12 l0 x5_1 t289 x7_2 true (wrap64 (x9_3 + 1)) a1_0 a1_1 a1_2 a1_3) = some r := by rw [if_pos rfl] at H; exact H
         clear H
         have H := H1
         clear H1
         have H' := Aside0.mk H
         clear H
         try go_wp2
         replace BK288 := Kd_ BK288
         replace HB := Aside0.mk (below_drew1 HB.out)
         have p293 : 0 ≤ (x9_3 : Int) := of_decide_eq_true (by first | (with_reducible assumption) | assumption)
         have q293 : x9_3 < (l0.length : Int) := of_decide_eq_true (by first | (with_reducible assumption) | assumption)
         obtain ⟨ad293, A293_5, c293_5, e293, hx293_0, hx293_1, hx293_2, hx293_3, hx293_4, hx293_5, hl293_5, hi293_5⟩ := at_T81 HR0.out x9_3 p293 q293
         have hw293_5 := hx293_5
         have hw293_4 := hx293_4
         have hw293_3 := hx293_3
         have hw293_2 := hx293_2
         have hw293_1 := hx293_1
         have hw293_0 := hx293_0
         cases e293
         replace hx293_0 := (HB.out.cell (World.block_lt_of_cell? w _ hx293_0)).trans hx293_0
         replace hx293_1 := (HB.out.cell (World.block_lt_of_cell? w _ hx293_1)).trans hx293_1
         replace hx293_2 := (HB.out.cell (World.block_lt_of_cell? w _ hx293_2)).trans hx293_2
         replace hx293_3 := (HB.out.cell (World.block_lt_of_cell? w _ hx293_3)).trans hx293_3
         replace hx293_4 := (HB.out.cell (World.block_lt_of_cell? w _ hx293_4)).trans hx293_4
         replace hx293_5 := (HB.out.cell (World.block_lt_of_cell? w _ hx293_5)).trans hx293_5
         have HR293_5 := Aside0.mk hi293_5
         have HC293_5 := Aside0.mk hl293_5
         clear hi293_5 hl293_5
         replace p293 := eq_true p293
         replace q293 := eq_true q293
         refine start_ (n := 8) (S := fun w' => w'.cell? ⟨gb288, 0, none⟩ = some (.int .u64 a1_0) ∧ w'.cell? ⟨gb288, 1, none⟩ = some (.int .u64 a1_1) ∧ w'.cell? ⟨gb288, 2, none⟩ = some (.int .u64 a1_2) ∧ w'.cell? ⟨gb288, 3, none⟩ = some (.int .u64 a1_3) ∧ w'.cell? (ad293.add ((x9_3).toNat * 6)) = some (.int .u64 ((rd_T81 l0 x9_3).f0.f0.f0)) ∧ w'.cell? ⟨(ad293.add ((x9_3).toNat * 6)).block, (ad293.add ((x9_3).toNat * 6)).off + 1, none⟩ = some (.int .u64 ((rd_T81 l0 x9_3).f0.f0.f1)) ∧ w'.cell? ⟨(ad293.add ((x9_3).toNat * 6)).block, (ad293.add ((x9_3).toNat * 6)).off + 2, none⟩ = some (.int .u64 ((rd_T81 l0 x9_3).f0.f0.f2)) ∧ w'.cell? ⟨(ad293.add ((x9_3).toNat * 6)).block, (ad293.add ((x9_3).toNat * 6)).off + 3, none⟩ = some (.int .u64 ((rd_T81 l0 x9_3).f0.f0.f3)) ∧ w'.cell? ⟨(ad293.add ((x9_3).toNat * 6)).block, (ad293.add ((x9_3).toNat * 6)).off + 4, none⟩ = some (.int .i64 ((rd_T81 l0 x9_3).f0.f1)) ∧ w'.cell? ⟨(ad293.add ((x9_3).toNat * 6)).block, (ad293.add ((x9_3).toNat * 6)).off + 5, none⟩ = some (.slice A293_5 ((rd_T81 l0 x9_3).f1).length c293_5)) (ds := []) (mB_ 8 0) (by kernel_rfl) rfl rfl ⟨Km_ BK288 0, Km_ BK288 1, Km_ BK288 2, Km_ BK288 3, ((HB.out.cell (World.block_lt_of_cell? w _ hw293_0)).trans hw293_0), ((HB.out.cell (World.block_lt_of_cell? w _ hw293_1)).trans hw293_1), ((HB.out.cell (World.block_lt_of_cell? w _ hw293_2)).trans hw293_2), ((HB.out.cell (World.block_lt_of_cell? w _ hw293_3)).trans hw293_3), ((HB.out.cell (World.block_lt_of_cell? w _ hw293_4)).trans hw293_4), ((HB.out.cell (World.block_lt_of_cell? w _ hw293_5)).trans hw293_5)⟩ (fun hHeld => ?_); refine with_tabW tenementref22_Closed.tab16 tenementref22_Closed.bits16 (fun HT_ HW_ => ?_)
         generalize wc.drew = w23 at BK288 HB HR293_5 hx293_0 hx293_1 hx293_2 hx293_3 hx293_4 hx293_5 hHeld ⊢
         refine Kp_ 0 48 (mB_ 8 1) (any_of HT_.out (by kernel_rfl)) ?_
         refine Kp_ 1 49 (mB_ 8 3) (any_of HT_.out (by kernel_rfl)) ?_
         refine Kp_ 2 50 (mB_ 8 7) (any_of HT_.out (by kernel_rfl)) ?_
         refine Kp_ 3 51 (mB_ 8 15) (any_of HT_.out (by kernel_rfl)) ?_
         refine Ko_ 4 52 (mB_ 8 31) (take_ofW HT_.out HW_.out (by kernel_rfl)) hHeld ?_
         refine Ko_ 5 53 (mB_ 8 63) (take_ofW HT_.out HW_.out (by kernel_rfl)) hHeld ?_
         refine one_ (i := 6) (N := some 54) (mB_ 8 127) rfl rfl (one_of HT_.out (by kernel_rfl)) (by decide) (fun K hK => ?_)
         refine goes_ Try.func44 (by kernel_rfl) rfl #[.agg #[.int .u64 ((rd_T81 l0 x9_3).f0.f0.f0), .int .u64 ((rd_T81 l0 x9_3).f0.f0.f1), .int .u64 ((rd_T81 l0 x9_3).f0.f0.f2), .int .u64 ((rd_T81 l0 x9_3).f0.f0.f3), .int .i64 ((rd_T81 l0 x9_3).f0.f1)], .agg #[.int .u64 a1_0, .int .u64 a1_1, .int .u64 a1_2, .int .u64 a1_3]] (by rfl) rfl rfl (by (try simp only [List.map_toArray, List.map_cons, List.map_nil]); first | done | rfl | (simp only [List.length_drop, List.length_take]; rfl)) ?_
         with_reducible refine (tenementref07_Seen.calls kj12 ((rd_T81 l0 x9_3).f0.f0.f0) ((rd_T81 l0 x9_3).f0.f0.f1) ((rd_T81 l0 x9_3).f0.f0.f2) ((rd_T81 l0 x9_3).f0.f0.f3) ((rd_T81 l0 x9_3).f0.f1) a1_0 a1_1 a1_2 a1_3 true _ A21.out).mono ?_
         rintro e w24 ⟨rfl, hb⟩
         refine ⟨_, rfl, ?_⟩
         replace BK288 := Kb_ BK288 hb
         replace HB := Ks_ HB hb
         (try clear hb)
         (try clear hb2)
         (try clear hk)
         (try clear hi)
         refine hK.out _ _ ⟨Km_ BK288 0, Km_ BK288 1, Km_ BK288 2, Km_ BK288 3, ((HB.out.cell (World.block_lt_of_cell? w _ hw293_0)).trans hw293_0), ((HB.out.cell (World.block_lt_of_cell? w _ hw293_1)).trans hw293_1), ((HB.out.cell (World.block_lt_of_cell? w _ hw293_2)).trans hw293_2), ((HB.out.cell (World.block_lt_of_cell? w _ hw293_3)).trans hw293_3), ((HB.out.cell (World.block_lt_of_cell? w _ hw293_4)).trans hw293_4), ((HB.out.cell (World.block_lt_of_cell? w _ hw293_5)).trans hw293_5)⟩ (fun hHeld => ?_)
         clear hK K
         refine Kn_ 54 ?_
         refine Kp_ 7 55 (mB_ 8 255) (any_of HT_.out (by kernel_rfl)) ?_
         refine done_ (done_of HT_.out (by kernel_rfl)) ?_
         try go_wp2
         go_roundg kj12
         case measure => have := HK1.out; have := HK2.out; have := HK3.out; have := HJ12.out; omega
         case rel => exact ⟨(true), (wrap64 (x9_3 + 1)), (by first | rfl | (simp; done) | (simp [*]; done)), (by first | rfl | (simp; done) | (simp [*]; done)), H', ⟨by have := HK1.out; have := HK2.out; have := HK3.out; have := HJ12.out; omega⟩, ⟨by exact Kq_ BK288⟩, ⟨Kz_ HB GE288⟩⟩
end Go.Proofs.Ythjhkcebcgdeoaa.Q
