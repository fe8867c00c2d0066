import Derived.Test.YtoagfdpgnfinhaaQx0
import Derived.Test.YtoagfdpgnfinhaaGStreamReady0
import Derived.Test.YtoagfdpgnfinhaaGStreamReady2
namespace Go.Proofs.Ytoagfdpgnfinhaa.Q
open Go.RowKit Go.Proofs.YtoagfdpgnfinhaaW.PrintWords Go.Proofs.YtoagfdpgnfinhaaW.PrintLast Go.Proofs.YtoagfdpgnfinhaaW.PrintMore
attribute [local go_sem] max2_int min2_int max_two min_two max_three min_three max_four min_four   -- for this text's walks alone
set_option linter.unusedVariables false
set_option linter.unusedSimpArgs false
/-! ### stamp_Get: function 99 -/
def stamp_Get.f (k : Nat) (a0_0 : ByteArray) (a0_1 : Bool) : Option (Int × Int × Int × Int × Int × ByteArray × Bool) := (pack_Reader_Number.f a0_0 a0_1 1).bind fun bt195 => ((vec_Get.f k bt195.2.1 bt195.2.2).bind fun bt198 => (if bt198.2.2.2.2.2 = true then (some (0, 0, 0, 0, 0, (⟨#[]⟩ : ByteArray), true)) else ((stamp_Right.f bt198.1 bt198.2.1 bt198.2.2.1 bt198.2.2.2.1 (wrap64 (bt195.1))).bind fun t206 => (if t206 = true then (some (bt198.1, bt198.2.1, bt198.2.2.1, bt198.2.2.2.1, wrap64 (bt195.1), bt198.2.2.2.2.1, bt198.2.2.2.2.2)) else (some (0, 0, 0, 0, 0, (⟨#[]⟩ : ByteArray), true))))))
theorem stamp_Get.mono : ∀ a0 a1 k, LeO (stamp_Get.f k a0 a1) (stamp_Get.f (k + 1) a0 a1) := by
  intro a0 a1 k
  unfold stamp_Get.f
  repeat' first
      | (with_reducible exact vec_Get.mono _ _ _)
      | (with_reducible exact LeO.refl _)
      | (with_reducible exact LeO.none _)
      | (with_reducible refine LeO.ite ?_ ?_)
      | (with_reducible refine LeO.bind ?_ (fun _ => ?_))
      | exact vec_Get.mono _ _ _
      | exact LeO.none _
      | refine LeO.ite ?_ ?_
      | refine LeO.bind ?_ (fun _ => ?_)
set_option maxHeartbeats 8000000 in
set_option maxRecDepth 100000 in
theorem stamp_Get.calls (k : Nat) (a0_0 : ByteArray) (a0_1 : Bool) (r1 : Int) (r2 : Int) (r3 : Int) (r4 : Int) (r5 : Int) (r6 : ByteArray) (r7 : Bool) (w : World) (h : stamp_Get.f k a0_0 a0_1 = some (r1, r2, r3, r4, r5, r6, r7)) :
    Calls Try.prog 99 #[.agg #[.string a0_0, .bool a0_1]] w fun e w' => e = .returned (.tuple #[.agg #[.int .u64 r1, .int .u64 r2, .int .u64 r3, .int .u64 r4, .int .i64 r5], .agg #[.string r6, .bool r7]]) ∧ Below w.heap.size w w' := by
  have hu134 := Try.underlying134
  have hu30 := Try.underlying30
  have hu28 := Try.underlying28
  have HB := Aside0.mk (Below.refl w.heap.size w)
  have H : ((pack_Reader_Number.f a0_0 a0_1 1).bind fun bt195 => ((vec_Get.f k bt195.2.1 bt195.2.2).bind fun bt198 => (if bt198.2.2.2.2.2 = true then (some (0, 0, 0, 0, 0, (⟨#[]⟩ : ByteArray), true)) else ((stamp_Right.f bt198.1 bt198.2.1 bt198.2.2.1 bt198.2.2.2.1 (wrap64 (bt195.1))).bind fun t206 => (if t206 = true then (some (bt198.1, bt198.2.1, bt198.2.2.1, bt198.2.2.2.1, wrap64 (bt195.1), bt198.2.2.2.2.1, bt198.2.2.2.2.2)) else (some (0, 0, 0, 0, 0, (⟨#[]⟩ : ByteArray), true))))))) = some (r1, r2, r3, r4, r5, r6, r7) := h
  clear h
  replace H := Option.bind_eq_some_iff.mp H
  obtain ⟨⟨t195, t196, t197⟩, A20, H⟩ := H
  replace H : ((vec_Get.f k t196 t197).bind fun bt198 => (if bt198.2.2.2.2.2 = true then (some (0, 0, 0, 0, 0, (⟨#[]⟩ : ByteArray), true)) else ((stamp_Right.f bt198.1 bt198.2.1 bt198.2.2.1 bt198.2.2.2.1 (wrap64 (t195))).bind fun t206 => (if t206 = true then (some (bt198.1, bt198.2.1, bt198.2.2.1, bt198.2.2.2.1, wrap64 (t195), bt198.2.2.2.2.1, bt198.2.2.2.2.2)) else (some (0, 0, 0, 0, 0, (⟨#[]⟩ : ByteArray), true)))))) = some (r1, r2, r3, r4, r5, r6, r7) := H
  have A2 := Aside0.mk A20
  clear A20
  replace H := Option.bind_eq_some_iff.mp H
  obtain ⟨⟨t198, t199, t200, t201, t202, t203⟩, A30, H⟩ := H
  replace H : (if t203 = true then (some (0, 0, 0, 0, 0, (⟨#[]⟩ : ByteArray), true)) else ((stamp_Right.f t198 t199 t200 t201 (wrap64 (t195))).bind fun t206 => (if t206 = true then (some (t198, t199, t200, t201, wrap64 (t195), t202, t203)) else (some (0, 0, 0, 0, 0, (⟨#[]⟩ : ByteArray), true))))) = some (r1, r2, r3, r4, r5, r6, r7) := H
  have A3 := Aside0.mk A30
  clear A30
  by_cases c4 : t203 = true
  · subst c4
    have H1 : (some (0, 0, 0, 0, 0, (⟨#[]⟩ : ByteArray), true)) = some (r1, r2, r3, r4, r5, r6, r7) := by rw [if_pos rfl] at H; exact H
    clear H
    have H := H1
    clear H1
    simp only [Option.some.injEq, Prod.mk.injEq] at H
    obtain ⟨rfl, rfl, rfl, rfl, rfl, rfl, rfl⟩ := H
    go_enter Try.func99, Try.ntmps99
    go_wp2_with (first | ((with_reducible refine gate_dst (N := 1) rfl ?_); refine Ka_ 1 #[.string a0_0, .bool a0_1] 134 ?_; intro gb192 hg w5 hbox hb; have BK192 := Aside0.mk (hbox); have GW192 := Kw_ HB hg; have GE192 := GW192; replace HB := Ks_ HB hb; clear hb hbox hg) | ((with_reducible refine gate_dst (N := 2) rfl ?_); refine Ka_ 2 #[.int .u64 0, .int .u64 0, .int .u64 0, .int .u64 0, .int .i64 0] 30 ?_; intro gb193 hg w6 hbox hb; have BK193 := Aside0.mk (hbox); have GW193 := Kw_ HB hg; have GE193 := GW193; have NB192_193 := Kl_ BK192 hg; have NB193_192 := Kr_ BK192 hg; replace BK192 := Kb_ BK192 hb; replace HB := Ks_ HB hb; clear hb hbox hg) | ((with_reducible refine gate_dst (N := 3) rfl ?_); refine Ka_ 3 #[.string (⟨#[]⟩ : ByteArray), .bool false] 134 ?_; intro gb194 hg w7 hbox hb; have BK194 := Aside0.mk (hbox); have GW194 := Kw_ HB hg; have GE194 := GW194; have NB192_194 := Kl_ BK192 hg; have NB194_192 := Kr_ BK192 hg; have NB193_194 := Kl_ BK193 hg; have NB194_193 := Kr_ BK193 hg; replace BK192 := Kb_ BK192 hb; replace BK193 := Kb_ BK193 hb; replace HB := Ks_ HB hb; clear hb hbox hg; have hnb8 := NB192_193.out; have hnc8 := NB193_192.out; have hnb9 := NB192_194.out; have hnc9 := NB194_192.out; obtain ⟨hcz10_0, hcz10_1, hfz10_0, hfz10_1⟩ := Ke2_ BK192.out) | ((with_reducible refine gate_callee (f := 75) rfl ?_); refine Kg_ (some 9) rfl rfl Try.func75 (by kernel_rfl) rfl #[.agg #[.string a0_0, .bool a0_1], .int .i64 1] rfl ?_; (with_reducible refine (pack_Reader_Number.calls a0_0 a0_1 1 t195 t196 t197 _ A2.out).mono ?_); rintro e w11 ⟨rfl, hb⟩; refine ⟨_, rfl, ?_⟩; replace BK192 := Kb_ BK192 hb; replace BK193 := Kb_ BK193 hb; replace BK194 := Kb_ BK194 hb; replace HB := Ks_ HB hb; (try clear hb); (try clear hb2); (try clear hk); (try clear hi); obtain ⟨hcz12_0, hcz12_1, hfz12_0, hfz12_1⟩ := Ke2_ BK192.out) | ((with_reducible refine gate_callee (f := 106) rfl ?_); refine Kg_ (some 14) rfl rfl Try.func106 (by kernel_rfl) rfl #[.agg #[.string t196, .bool t197]] rfl ?_; (with_reducible refine (vec_Get.calls k t196 t197 t198 t199 t200 t201 t202 true _ A3.out).mono ?_); rintro e w13 ⟨rfl, hb⟩; refine ⟨_, rfl, ?_⟩; replace BK192 := Aside0.mk (blk_below (g := gb192) (o := .cells #[.string t196, .bool t197] 134 (0, 0)) (by refine Kv_ ?_; refine blk_put (cs := #[.string t196, .bool a0_1]) ?_ 1 _ rfl; refine Kv_ ?_; refine blk_put (cs := #[.string a0_0, .bool a0_1]) ?_ 0 _ rfl; exact Kq_ BK192) hb); replace BK193 := Kf_ BK193 NB193_192 hb; replace BK194 := Kf_ BK194 NB194_192 hb; replace HB := Kt_ HB GE192 hb; (try clear hb); (try clear hb2); (try clear hk); (try clear hi)) | ((with_reducible refine gate_dst (N := 5) rfl ?_); refine Ka_ 5 #[.int .u64 0, .int .u64 0, .int .u64 0, .int .u64 0] 28 ?_; intro gb204 hg w14 hbox hb; have BK204 := Aside0.mk (hbox); have GW204 := Kw_ HB hg; have GE204 := GW204; have NB192_204 := Kl_ BK192 hg; have NB204_192 := Kr_ BK192 hg; have NB193_204 := Kl_ BK193 hg; have NB204_193 := Kr_ BK193 hg; have NB194_204 := Kl_ BK194 hg; have NB204_194 := Kr_ BK194 hg; replace BK192 := Kb_ BK192 hb; replace BK193 := Kb_ BK193 hb; replace BK194 := Kb_ BK194 hb; replace HB := Ks_ HB hb; clear hb hbox hg; have hnb15 := NB204_192.out; have hnc15 := NB192_204.out; have hnb16 := NB204_193.out; have hnc16 := NB193_204.out; have hnb17 := NB204_194.out; have hnc17 := NB194_204.out; obtain ⟨hcz18_0, hcz18_1, hcz18_2, hcz18_3, hfz18_0, hfz18_1, hfz18_2, hfz18_3⟩ := Ke4_ BK204.out; obtain ⟨hcz19_0, hcz19_1, hfz19_0, hfz19_1⟩ := Ke2_ BK192.out) | ((with_reducible refine gate_dst (N := 6) rfl ?_); refine Ka_ 6 #[.int .u64 0, .int .u64 0, .int .u64 0, .int .u64 0, .int .i64 0] 30 ?_; intro gb205 hg w20 hbox hb; have BK205 := Aside0.mk (hbox); have GW205 := Aside0.mk ((by rw [hg]; exact (below_size (K4a_ HB GE192 GE193 GE194 GE204)) : w.heap.size ≤ gb205)); have GE205 := GW205; have NB192_205 := Aside0.mk ((by rw [hg]; exact Nat.ne_of_lt (blk_lt (g := gb192) (o := .cells #[.string t202, .bool true] 134 (0, 0)) (by refine Kv_ ?_; refine blk_put (cs := #[.string t202, .bool t197]) ?_ 1 _ rfl; refine Kv_ ?_; refine blk_put (cs := #[.string t196, .bool t197]) ?_ 0 _ rfl; exact K1b_ BK192 NB192_204)) : gb192 ≠ gb205)); have NB205_192 := Aside0.mk ((by rw [hg]; exact Nat.ne_of_gt (blk_lt (g := gb192) (o := .cells #[.string t202, .bool true] 134 (0, 0)) (by refine Kv_ ?_; refine blk_put (cs := #[.string t202, .bool t197]) ?_ 1 _ rfl; refine Kv_ ?_; refine blk_put (cs := #[.string t196, .bool t197]) ?_ 0 _ rfl; exact K1b_ BK192 NB192_204)) : gb205 ≠ gb192)); have NB193_205 := Aside0.mk ((by rw [hg]; exact Nat.ne_of_lt (blk_lt (g := gb193) (o := .cells #[.int .u64 0, .int .u64 0, .int .u64 0, .int .u64 0, .int .i64 0] 30 (0, 0)) (K2b_ BK193 NB193_192 NB193_204)) : gb193 ≠ gb205)); have NB205_193 := Aside0.mk ((by rw [hg]; exact Nat.ne_of_gt (blk_lt (g := gb193) (o := .cells #[.int .u64 0, .int .u64 0, .int .u64 0, .int .u64 0, .int .i64 0] 30 (0, 0)) (K2b_ BK193 NB193_192 NB193_204)) : gb205 ≠ gb193)); have NB194_205 := Aside0.mk ((by rw [hg]; exact Nat.ne_of_lt (blk_lt (g := gb194) (o := .cells #[.string (⟨#[]⟩ : ByteArray), .bool false] 134 (0, 0)) (K2b_ BK194 NB194_192 NB194_204)) : gb194 ≠ gb205)); have NB205_194 := Aside0.mk ((by rw [hg]; exact Nat.ne_of_gt (blk_lt (g := gb194) (o := .cells #[.string (⟨#[]⟩ : ByteArray), .bool false] 134 (0, 0)) (K2b_ BK194 NB194_192 NB194_204)) : gb205 ≠ gb194)); have NB204_205 := Aside0.mk ((by rw [hg]; exact Nat.ne_of_lt (blk_lt (g := gb204) (o := .cells #[.int .u64 t198, .int .u64 t199, .int .u64 t200, .int .u64 t201] 28 (0, 0)) (by (repeat (first | (with_reducible first | refine blk_drewN ?_ _ | refine blk_drew ?_ | refine blk_alloc ?_ _) | refine blk_far ?_ NB204_192.out _)); refine blk_put (cs := #[.int .u64 t198, .int .u64 t199, .int .u64 t200, .int .u64 0]) ?_ 3 _ rfl; refine Kv_ ?_; refine blk_put (cs := #[.int .u64 t198, .int .u64 t199, .int .u64 0, .int .u64 0]) ?_ 2 _ rfl; refine Kv_ ?_; refine blk_put (cs := #[.int .u64 t198, .int .u64 0, .int .u64 0, .int .u64 0]) ?_ 1 _ rfl; refine Kv_ ?_; refine blk_put (cs := #[.int .u64 0, .int .u64 0, .int .u64 0, .int .u64 0]) ?_ 0 _ rfl; exact Kq_ BK204)) : gb204 ≠ gb205)); have NB205_204 := Aside0.mk ((by rw [hg]; exact Nat.ne_of_gt (blk_lt (g := gb204) (o := .cells #[.int .u64 t198, .int .u64 t199, .int .u64 t200, .int .u64 t201] 28 (0, 0)) (by (repeat (first | (with_reducible first | refine blk_drewN ?_ _ | refine blk_drew ?_ | refine blk_alloc ?_ _) | refine blk_far ?_ NB204_192.out _)); refine blk_put (cs := #[.int .u64 t198, .int .u64 t199, .int .u64 t200, .int .u64 0]) ?_ 3 _ rfl; refine Kv_ ?_; refine blk_put (cs := #[.int .u64 t198, .int .u64 t199, .int .u64 0, .int .u64 0]) ?_ 2 _ rfl; refine Kv_ ?_; refine blk_put (cs := #[.int .u64 t198, .int .u64 0, .int .u64 0, .int .u64 0]) ?_ 1 _ rfl; refine Kv_ ?_; refine blk_put (cs := #[.int .u64 0, .int .u64 0, .int .u64 0, .int .u64 0]) ?_ 0 _ rfl; exact Kq_ BK204)) : gb205 ≠ gb204)); replace BK192 := Aside0.mk (blk_below (g := gb192) (o := .cells #[.string t202, .bool true] 134 (0, 0)) (by refine Kv_ ?_; refine blk_put (cs := #[.string t202, .bool t197]) ?_ 1 _ rfl; refine Kv_ ?_; refine blk_put (cs := #[.string t196, .bool t197]) ?_ 0 _ rfl; exact K1b_ BK192 NB192_204) hb); replace BK193 := Aside0.mk (blk_below (g := gb193) (o := .cells #[.int .u64 0, .int .u64 0, .int .u64 0, .int .u64 0, .int .i64 0] 30 (0, 0)) (K2b_ BK193 NB193_192 NB193_204) hb); replace BK194 := Aside0.mk (blk_below (g := gb194) (o := .cells #[.string (⟨#[]⟩ : ByteArray), .bool false] 134 (0, 0)) (K2b_ BK194 NB194_192 NB194_204) hb); replace BK204 := Aside0.mk (blk_below (g := gb204) (o := .cells #[.int .u64 t198, .int .u64 t199, .int .u64 t200, .int .u64 t201] 28 (0, 0)) (by (repeat (first | (with_reducible first | refine blk_drewN ?_ _ | refine blk_drew ?_ | refine blk_alloc ?_ _) | refine blk_far ?_ NB204_192.out _)); refine blk_put (cs := #[.int .u64 t198, .int .u64 t199, .int .u64 t200, .int .u64 0]) ?_ 3 _ rfl; refine Kv_ ?_; refine blk_put (cs := #[.int .u64 t198, .int .u64 t199, .int .u64 0, .int .u64 0]) ?_ 2 _ rfl; refine Kv_ ?_; refine blk_put (cs := #[.int .u64 t198, .int .u64 0, .int .u64 0, .int .u64 0]) ?_ 1 _ rfl; refine Kv_ ?_; refine blk_put (cs := #[.int .u64 0, .int .u64 0, .int .u64 0, .int .u64 0]) ?_ 0 _ rfl; exact Kq_ BK204) hb); replace HB := Aside0.mk (below_step (K4a_ HB GE192 GE193 GE194 GE204) hb); clear hb hbox hg; have hnb21 := NB205_192.out; have hnc21 := NB192_205.out; have hnb22 := NB205_193.out; have hnc22 := NB193_205.out; have hnb23 := NB205_194.out; have hnc23 := NB194_205.out; have hnb24 := NB205_204.out; have hnc24 := NB204_205.out; obtain ⟨hcz25_0, hcz25_1, hcz25_2, hcz25_3, hcz25_4, hfz25_0, hfz25_1, hfz25_2, hfz25_3, hfz25_4⟩ := Ke5_ BK205.out; obtain ⟨hcz26_0, hcz26_1, hfz26_0, hfz26_1⟩ := Ke2_ BK192.out; have hnb27 := NB193_194.out; have hnc27 := NB194_193.out; obtain ⟨hcz28_0, hcz28_1, hcz28_2, hcz28_3, hcz28_4, hfz28_0, hfz28_1, hfz28_2, hfz28_3, hfz28_4⟩ := Ke5_ BK193.out; obtain ⟨hcz29_0, hcz29_1, hfz29_0, hfz29_1⟩ := Ke2_ BK194.out))
    refine bodyPost_ret (results_cc rfl _ _ gb193 gb194 30 134 #[.int .u64 0, .int .u64 0, .int .u64 0, .int .u64 0, .int .i64 0] #[.string (⟨#[]⟩ : ByteArray), .bool true] (0, 0) (0, 0) _ _ rfl (by (repeat (first | (with_reducible first | refine blk_drewN ?_ _ | refine blk_drew ?_ | refine blk_alloc ?_ _) | refine blk_far ?_ NB193_194.out _)); refine blk_put (cs := #[.int .u64 0, .int .u64 0, .int .u64 0, .int .u64 0, .int .i64 0]) ?_ 4 _ rfl; refine Kv_ ?_; refine blk_put (cs := #[.int .u64 0, .int .u64 0, .int .u64 0, .int .u64 0, .int .i64 0]) ?_ 3 _ rfl; refine Kv_ ?_; refine blk_put (cs := #[.int .u64 0, .int .u64 0, .int .u64 0, .int .u64 0, .int .i64 0]) ?_ 2 _ rfl; refine Kv_ ?_; refine blk_put (cs := #[.int .u64 0, .int .u64 0, .int .u64 0, .int .u64 0, .int .i64 0]) ?_ 1 _ rfl; refine Kv_ ?_; refine blk_put (cs := #[.int .u64 0, .int .u64 0, .int .u64 0, .int .u64 0, .int .i64 0]) ?_ 0 _ rfl; exact K1b_ BK193 NB193_205) Try.underlying30 rfl (by kernel_rfl) rfl (by refine Kv_ ?_; refine blk_put (cs := #[.string (⟨#[]⟩ : ByteArray), .bool false]) ?_ 1 _ rfl; refine Kv_ ?_; refine blk_put (cs := #[.string (⟨#[]⟩ : ByteArray), .bool false]) ?_ 0 _ rfl; exact K2b_ BK194 NB194_193 NB194_205) Try.underlying134 rfl (by kernel_rfl)) rfl ?_
    exact ⟨Kh_, by repeat (first | (with_reducible first | exact HB.out | apply below_alloc | apply pw_below_drewN | apply below_drew1 | refine below_set ?_ GE192.out | refine below_set ?_ GE193.out | refine below_set ?_ GE194.out | refine below_set ?_ GE204.out | refine below_set ?_ GE205.out) | exact HB.out)⟩
  replace c4 := Bool.eq_false_iff.mpr c4
  subst c4
  have H1 : ((stamp_Right.f t198 t199 t200 t201 (wrap64 (t195))).bind fun t206 => (if t206 = true then (some (t198, t199, t200, t201, wrap64 (t195), t202, false)) else (some (0, 0, 0, 0, 0, (⟨#[]⟩ : ByteArray), true)))) = some (r1, r2, r3, r4, r5, r6, r7) := by rw [if_neg (show ¬ (false = true) by decide)] at H; exact H
  clear H
  have H := H1
  clear H1
  replace H := Option.bind_eq_some_iff.mp H
  obtain ⟨t206, A300, H⟩ := H
  replace H : (if t206 = true then (some (t198, t199, t200, t201, wrap64 (t195), t202, false)) else (some (0, 0, 0, 0, 0, (⟨#[]⟩ : ByteArray), true))) = some (r1, r2, r3, r4, r5, r6, r7) := H
  have A30 := Aside0.mk A300
  clear A300
  by_cases c31 : t206 = true
  rotate_left
  · replace c31 := Bool.eq_false_iff.mpr c31
    subst c31
    have H1 : (some (0, 0, 0, 0, 0, (⟨#[]⟩ : ByteArray), true)) = some (r1, r2, r3, r4, r5, r6, r7) := by rw [if_neg (show ¬ (false = true) by decide)] at H; exact H
    clear H
    have H := H1
    clear H1
    simp only [Option.some.injEq, Prod.mk.injEq] at H
    obtain ⟨rfl, rfl, rfl, rfl, rfl, rfl, rfl⟩ := H
    go_enter Try.func99, Try.ntmps99
    go_wp2_with (first | ((with_reducible refine gate_dst (N := 1) rfl ?_); refine Ka_ 1 #[.string a0_0, .bool a0_1] 134 ?_; intro gb192 hg w63 hbox hb; have BK192 := Aside0.mk (hbox); have GW192 := Kw_ HB hg; have GE192 := GW192; replace HB := Ks_ HB hb; clear hb hbox hg) | ((with_reducible refine gate_dst (N := 2) rfl ?_); refine Ka_ 2 #[.int .u64 0, .int .u64 0, .int .u64 0, .int .u64 0, .int .i64 0] 30 ?_; intro gb193 hg w64 hbox hb; have BK193 := Aside0.mk (hbox); have GW193 := Kw_ HB hg; have GE193 := GW193; have NB192_193 := Kl_ BK192 hg; have NB193_192 := Kr_ BK192 hg; replace BK192 := Kb_ BK192 hb; replace HB := Ks_ HB hb; clear hb hbox hg) | ((with_reducible refine gate_dst (N := 3) rfl ?_); refine Ka_ 3 #[.string (⟨#[]⟩ : ByteArray), .bool false] 134 ?_; intro gb194 hg w65 hbox hb; have BK194 := Aside0.mk (hbox); have GW194 := Kw_ HB hg; have GE194 := GW194; have NB192_194 := Kl_ BK192 hg; have NB194_192 := Kr_ BK192 hg; have NB193_194 := Kl_ BK193 hg; have NB194_193 := Kr_ BK193 hg; replace BK192 := Kb_ BK192 hb; replace BK193 := Kb_ BK193 hb; replace HB := Ks_ HB hb; clear hb hbox hg; have hnb66 := NB192_193.out; have hnc66 := NB193_192.out; have hnb67 := NB192_194.out; have hnc67 := NB194_192.out; obtain ⟨hcz68_0, hcz68_1, hfz68_0, hfz68_1⟩ := Ke2_ BK192.out) | ((with_reducible refine gate_callee (f := 75) rfl ?_); refine Kg_ (some 9) rfl rfl Try.func75 (by kernel_rfl) rfl #[.agg #[.string a0_0, .bool a0_1], .int .i64 1] rfl ?_; (with_reducible refine (pack_Reader_Number.calls a0_0 a0_1 1 t195 t196 t197 _ A2.out).mono ?_); rintro e w69 ⟨rfl, hb⟩; refine ⟨_, rfl, ?_⟩; replace BK192 := Kb_ BK192 hb; replace BK193 := Kb_ BK193 hb; replace BK194 := Kb_ BK194 hb; replace HB := Ks_ HB hb; (try clear hb); (try clear hb2); (try clear hk); (try clear hi); obtain ⟨hcz70_0, hcz70_1, hfz70_0, hfz70_1⟩ := Ke2_ BK192.out) | ((with_reducible refine gate_callee (f := 106) rfl ?_); refine Kg_ (some 14) rfl rfl Try.func106 (by kernel_rfl) rfl #[.agg #[.string t196, .bool t197]] rfl ?_; (with_reducible refine (vec_Get.calls k t196 t197 t198 t199 t200 t201 t202 false _ A3.out).mono ?_); rintro e w71 ⟨rfl, hb⟩; refine ⟨_, rfl, ?_⟩; replace BK192 := Aside0.mk (blk_below (g := gb192) (o := .cells #[.string t196, .bool t197] 134 (0, 0)) (by refine Kv_ ?_; refine blk_put (cs := #[.string t196, .bool a0_1]) ?_ 1 _ rfl; refine Kv_ ?_; refine blk_put (cs := #[.string a0_0, .bool a0_1]) ?_ 0 _ rfl; exact Kq_ BK192) hb); replace BK193 := Kf_ BK193 NB193_192 hb; replace BK194 := Kf_ BK194 NB194_192 hb; replace HB := Kt_ HB GE192 hb; (try clear hb); (try clear hb2); (try clear hk); (try clear hi)) | ((with_reducible refine gate_dst (N := 5) rfl ?_); refine Ka_ 5 #[.int .u64 0, .int .u64 0, .int .u64 0, .int .u64 0] 28 ?_; intro gb204 hg w72 hbox hb; have BK204 := Aside0.mk (hbox); have GW204 := Kw_ HB hg; have GE204 := GW204; have NB192_204 := Kl_ BK192 hg; have NB204_192 := Kr_ BK192 hg; have NB193_204 := Kl_ BK193 hg; have NB204_193 := Kr_ BK193 hg; have NB194_204 := Kl_ BK194 hg; have NB204_194 := Kr_ BK194 hg; replace BK192 := Kb_ BK192 hb; replace BK193 := Kb_ BK193 hb; replace BK194 := Kb_ BK194 hb; replace HB := Ks_ HB hb; clear hb hbox hg; have hnb73 := NB204_192.out; have hnc73 := NB192_204.out; have hnb74 := NB204_193.out; have hnc74 := NB193_204.out; have hnb75 := NB204_194.out; have hnc75 := NB194_204.out; obtain ⟨hcz76_0, hcz76_1, hcz76_2, hcz76_3, hfz76_0, hfz76_1, hfz76_2, hfz76_3⟩ := Ke4_ BK204.out; obtain ⟨hcz77_0, hcz77_1, hfz77_0, hfz77_1⟩ := Ke2_ BK192.out) | ((with_reducible refine gate_dst (N := 6) rfl ?_); refine Ka_ 6 #[.int .u64 0, .int .u64 0, .int .u64 0, .int .u64 0, .int .i64 0] 30 ?_; intro gb205 hg w78 hbox hb; have BK205 := Aside0.mk (hbox); have GW205 := Aside0.mk ((by rw [hg]; exact (below_size (K4a_ HB GE192 GE193 GE194 GE204)) : w.heap.size ≤ gb205)); have GE205 := GW205; have NB192_205 := Aside0.mk ((by rw [hg]; exact Nat.ne_of_lt (blk_lt (g := gb192) (o := .cells #[.string t202, .bool false] 134 (0, 0)) (by refine Kv_ ?_; refine blk_put (cs := #[.string t202, .bool t197]) ?_ 1 _ rfl; refine Kv_ ?_; refine blk_put (cs := #[.string t196, .bool t197]) ?_ 0 _ rfl; exact K1b_ BK192 NB192_204)) : gb192 ≠ gb205)); have NB205_192 := Aside0.mk ((by rw [hg]; exact Nat.ne_of_gt (blk_lt (g := gb192) (o := .cells #[.string t202, .bool false] 134 (0, 0)) (by refine Kv_ ?_; refine blk_put (cs := #[.string t202, .bool t197]) ?_ 1 _ rfl; refine Kv_ ?_; refine blk_put (cs := #[.string t196, .bool t197]) ?_ 0 _ rfl; exact K1b_ BK192 NB192_204)) : gb205 ≠ gb192)); have NB193_205 := Aside0.mk ((by rw [hg]; exact Nat.ne_of_lt (blk_lt (g := gb193) (o := .cells #[.int .u64 0, .int .u64 0, .int .u64 0, .int .u64 0, .int .i64 0] 30 (0, 0)) (K2b_ BK193 NB193_192 NB193_204)) : gb193 ≠ gb205)); have NB205_193 := Aside0.mk ((by rw [hg]; exact Nat.ne_of_gt (blk_lt (g := gb193) (o := .cells #[.int .u64 0, .int .u64 0, .int .u64 0, .int .u64 0, .int .i64 0] 30 (0, 0)) (K2b_ BK193 NB193_192 NB193_204)) : gb205 ≠ gb193)); have NB194_205 := Aside0.mk ((by rw [hg]; exact Nat.ne_of_lt (blk_lt (g := gb194) (o := .cells #[.string (⟨#[]⟩ : ByteArray), .bool false] 134 (0, 0)) (K2b_ BK194 NB194_192 NB194_204)) : gb194 ≠ gb205)); have NB205_194 := Aside0.mk ((by rw [hg]; exact Nat.ne_of_gt (blk_lt (g := gb194) (o := .cells #[.string (⟨#[]⟩ : ByteArray), .bool false] 134 (0, 0)) (K2b_ BK194 NB194_192 NB194_204)) : gb205 ≠ gb194)); have NB204_205 := Aside0.mk ((by rw [hg]; exact Nat.ne_of_lt (blk_lt (g := gb204) (o := .cells #[.int .u64 t198, .int .u64 t199, .int .u64 t200, .int .u64 t201] 28 (0, 0)) (by (repeat (first | (with_reducible first | refine blk_drewN ?_ _ | refine blk_drew ?_ | refine blk_alloc ?_ _) | refine blk_far ?_ NB204_192.out _)); refine blk_put (cs := #[.int .u64 t198, .int .u64 t199, .int .u64 t200, .int .u64 0]) ?_ 3 _ rfl; refine Kv_ ?_; refine blk_put (cs := #[.int .u64 t198, .int .u64 t199, .int .u64 0, .int .u64 0]) ?_ 2 _ rfl; refine Kv_ ?_; refine blk_put (cs := #[.int .u64 t198, .int .u64 0, .int .u64 0, .int .u64 0]) ?_ 1 _ rfl; refine Kv_ ?_; refine blk_put (cs := #[.int .u64 0, .int .u64 0, .int .u64 0, .int .u64 0]) ?_ 0 _ rfl; exact Kq_ BK204)) : gb204 ≠ gb205)); have NB205_204 := Aside0.mk ((by rw [hg]; exact Nat.ne_of_gt (blk_lt (g := gb204) (o := .cells #[.int .u64 t198, .int .u64 t199, .int .u64 t200, .int .u64 t201] 28 (0, 0)) (by (repeat (first | (with_reducible first | refine blk_drewN ?_ _ | refine blk_drew ?_ | refine blk_alloc ?_ _) | refine blk_far ?_ NB204_192.out _)); refine blk_put (cs := #[.int .u64 t198, .int .u64 t199, .int .u64 t200, .int .u64 0]) ?_ 3 _ rfl; refine Kv_ ?_; refine blk_put (cs := #[.int .u64 t198, .int .u64 t199, .int .u64 0, .int .u64 0]) ?_ 2 _ rfl; refine Kv_ ?_; refine blk_put (cs := #[.int .u64 t198, .int .u64 0, .int .u64 0, .int .u64 0]) ?_ 1 _ rfl; refine Kv_ ?_; refine blk_put (cs := #[.int .u64 0, .int .u64 0, .int .u64 0, .int .u64 0]) ?_ 0 _ rfl; exact Kq_ BK204)) : gb205 ≠ gb204)); replace BK192 := Aside0.mk (blk_below (g := gb192) (o := .cells #[.string t202, .bool false] 134 (0, 0)) (by refine Kv_ ?_; refine blk_put (cs := #[.string t202, .bool t197]) ?_ 1 _ rfl; refine Kv_ ?_; refine blk_put (cs := #[.string t196, .bool t197]) ?_ 0 _ rfl; exact K1b_ BK192 NB192_204) hb); replace BK193 := Aside0.mk (blk_below (g := gb193) (o := .cells #[.int .u64 0, .int .u64 0, .int .u64 0, .int .u64 0, .int .i64 0] 30 (0, 0)) (K2b_ BK193 NB193_192 NB193_204) hb); replace BK194 := Aside0.mk (blk_below (g := gb194) (o := .cells #[.string (⟨#[]⟩ : ByteArray), .bool false] 134 (0, 0)) (K2b_ BK194 NB194_192 NB194_204) hb); replace BK204 := Aside0.mk (blk_below (g := gb204) (o := .cells #[.int .u64 t198, .int .u64 t199, .int .u64 t200, .int .u64 t201] 28 (0, 0)) (by (repeat (first | (with_reducible first | refine blk_drewN ?_ _ | refine blk_drew ?_ | refine blk_alloc ?_ _) | refine blk_far ?_ NB204_192.out _)); refine blk_put (cs := #[.int .u64 t198, .int .u64 t199, .int .u64 t200, .int .u64 0]) ?_ 3 _ rfl; refine Kv_ ?_; refine blk_put (cs := #[.int .u64 t198, .int .u64 t199, .int .u64 0, .int .u64 0]) ?_ 2 _ rfl; refine Kv_ ?_; refine blk_put (cs := #[.int .u64 t198, .int .u64 0, .int .u64 0, .int .u64 0]) ?_ 1 _ rfl; refine Kv_ ?_; refine blk_put (cs := #[.int .u64 0, .int .u64 0, .int .u64 0, .int .u64 0]) ?_ 0 _ rfl; exact Kq_ BK204) hb); replace HB := Aside0.mk (below_step (K4a_ HB GE192 GE193 GE194 GE204) hb); clear hb hbox hg; have hnb79 := NB205_192.out; have hnc79 := NB192_205.out; have hnb80 := NB205_193.out; have hnc80 := NB193_205.out; have hnb81 := NB205_194.out; have hnc81 := NB194_205.out; have hnb82 := NB205_204.out; have hnc82 := NB204_205.out; obtain ⟨hcz83_0, hcz83_1, hcz83_2, hcz83_3, hcz83_4, hfz83_0, hfz83_1, hfz83_2, hfz83_3, hfz83_4⟩ := Ke5_ BK205.out; obtain ⟨hcz84_0, hcz84_1, hfz84_0, hfz84_1⟩ := Ke2_ BK192.out) | (go_at_call 69; (with_reducible refine (stamp_Right.calls t198 t199 t200 t201 (wrap64 (t195)) false _ A30.out).mono ?_); rintro e w85 ⟨rfl, hb⟩; replace BK192 := Kf_ BK192 NB192_205 hb; replace BK193 := Kf_ BK193 NB193_205 hb; replace BK194 := Kf_ BK194 NB194_205 hb; replace BK204 := Kf_ BK204 NB204_205 hb; replace BK205 := Aside0.mk (blk_below (g := gb205) (o := .cells #[.int .u64 t198, .int .u64 t199, .int .u64 t200, .int .u64 t201, .int .i64 (wrap64 (t195))] 30 (0, 0)) (by refine Kv_ ?_; refine blk_put (cs := #[.int .u64 t198, .int .u64 t199, .int .u64 t200, .int .u64 t201, .int .i64 0]) ?_ 4 _ rfl; refine Kv_ ?_; refine blk_put (cs := #[.int .u64 t198, .int .u64 t199, .int .u64 t200, .int .u64 0, .int .i64 0]) ?_ 3 _ rfl; refine Kv_ ?_; refine blk_put (cs := #[.int .u64 t198, .int .u64 t199, .int .u64 0, .int .u64 0, .int .i64 0]) ?_ 2 _ rfl; refine Kv_ ?_; refine blk_put (cs := #[.int .u64 t198, .int .u64 0, .int .u64 0, .int .u64 0, .int .i64 0]) ?_ 1 _ rfl; refine Kv_ ?_; refine blk_put (cs := #[.int .u64 0, .int .u64 0, .int .u64 0, .int .u64 0, .int .i64 0]) ?_ 0 _ rfl; exact Kq_ BK205) hb); replace HB := Kt_ HB GE205 hb; (try clear hb); (try clear hb2); (try clear hk); (try clear hi); have hnb86 := NB193_194.out; have hnc86 := NB194_193.out; obtain ⟨hcz87_0, hcz87_1, hcz87_2, hcz87_3, hcz87_4, hfz87_0, hfz87_1, hfz87_2, hfz87_3, hfz87_4⟩ := Ke5_ BK193.out; obtain ⟨hcz88_0, hcz88_1, hfz88_0, hfz88_1⟩ := Ke2_ BK194.out))
    refine bodyPost_ret (results_cc rfl _ _ gb193 gb194 30 134 #[.int .u64 0, .int .u64 0, .int .u64 0, .int .u64 0, .int .i64 0] #[.string (⟨#[]⟩ : ByteArray), .bool true] (0, 0) (0, 0) _ _ rfl (by (repeat (first | (with_reducible first | refine blk_drewN ?_ _ | refine blk_drew ?_ | refine blk_alloc ?_ _) | refine blk_far ?_ NB193_194.out _)); refine blk_put (cs := #[.int .u64 0, .int .u64 0, .int .u64 0, .int .u64 0, .int .i64 0]) ?_ 4 _ rfl; refine Kv_ ?_; refine blk_put (cs := #[.int .u64 0, .int .u64 0, .int .u64 0, .int .u64 0, .int .i64 0]) ?_ 3 _ rfl; refine Kv_ ?_; refine blk_put (cs := #[.int .u64 0, .int .u64 0, .int .u64 0, .int .u64 0, .int .i64 0]) ?_ 2 _ rfl; refine Kv_ ?_; refine blk_put (cs := #[.int .u64 0, .int .u64 0, .int .u64 0, .int .u64 0, .int .i64 0]) ?_ 1 _ rfl; refine Kv_ ?_; refine blk_put (cs := #[.int .u64 0, .int .u64 0, .int .u64 0, .int .u64 0, .int .i64 0]) ?_ 0 _ rfl; exact Kq_ BK193) Try.underlying30 rfl (by kernel_rfl) rfl (by refine Kv_ ?_; refine blk_put (cs := #[.string (⟨#[]⟩ : ByteArray), .bool false]) ?_ 1 _ rfl; refine Kv_ ?_; refine blk_put (cs := #[.string (⟨#[]⟩ : ByteArray), .bool false]) ?_ 0 _ rfl; exact K1b_ BK194 NB194_193) Try.underlying134 rfl (by kernel_rfl)) rfl ?_
    exact ⟨Kh_, by repeat (first | (with_reducible first | exact HB.out | apply below_alloc | apply pw_below_drewN | apply below_drew1 | refine below_set ?_ GE192.out | refine below_set ?_ GE193.out | refine below_set ?_ GE194.out | refine below_set ?_ GE204.out | refine below_set ?_ GE205.out) | exact HB.out)⟩
  subst c31
  have H1 : (some (t198, t199, t200, t201, wrap64 (t195), t202, false)) = some (r1, r2, r3, r4, r5, r6, r7) := by rw [if_pos rfl] at H; exact H
  clear H
  have H := H1
  clear H1
  simp only [Option.some.injEq, Prod.mk.injEq] at H
  obtain ⟨rfl, rfl, rfl, rfl, rfl, rfl, rfl⟩ := H
  go_enter Try.func99, Try.ntmps99
  try go_wp2_with (first | ((with_reducible refine gate_dst (N := 1) rfl ?_); refine Ka_ 1 #[.string a0_0, .bool a0_1] 134 ?_; intro gb192 hg w32 hbox hb; have BK192 := Aside0.mk (hbox); have GW192 := Kw_ HB hg; have GE192 := GW192; replace HB := Ks_ HB hb; clear hb hbox hg) | ((with_reducible refine gate_dst (N := 2) rfl ?_); refine Ka_ 2 #[.int .u64 0, .int .u64 0, .int .u64 0, .int .u64 0, .int .i64 0] 30 ?_; intro gb193 hg w33 hbox hb; have BK193 := Aside0.mk (hbox); have GW193 := Kw_ HB hg; have GE193 := GW193; have NB192_193 := Kl_ BK192 hg; have NB193_192 := Kr_ BK192 hg; replace BK192 := Kb_ BK192 hb; replace HB := Ks_ HB hb; clear hb hbox hg) | ((with_reducible refine gate_dst (N := 3) rfl ?_); refine Ka_ 3 #[.string (⟨#[]⟩ : ByteArray), .bool false] 134 ?_; intro gb194 hg w34 hbox hb; have BK194 := Aside0.mk (hbox); have GW194 := Kw_ HB hg; have GE194 := GW194; have NB192_194 := Kl_ BK192 hg; have NB194_192 := Kr_ BK192 hg; have NB193_194 := Kl_ BK193 hg; have NB194_193 := Kr_ BK193 hg; replace BK192 := Kb_ BK192 hb; replace BK193 := Kb_ BK193 hb; replace HB := Ks_ HB hb; clear hb hbox hg; have hnb35 := NB192_193.out; have hnc35 := NB193_192.out; have hnb36 := NB192_194.out; have hnc36 := NB194_192.out; obtain ⟨hcz37_0, hcz37_1, hfz37_0, hfz37_1⟩ := Ke2_ BK192.out) | ((with_reducible refine gate_callee (f := 75) rfl ?_); refine Kg_ (some 9) rfl rfl Try.func75 (by kernel_rfl) rfl #[.agg #[.string a0_0, .bool a0_1], .int .i64 1] rfl ?_; (with_reducible refine (pack_Reader_Number.calls a0_0 a0_1 1 t195 t196 t197 _ A2.out).mono ?_); rintro e w38 ⟨rfl, hb⟩; refine ⟨_, rfl, ?_⟩; replace BK192 := Kb_ BK192 hb; replace BK193 := Kb_ BK193 hb; replace BK194 := Kb_ BK194 hb; replace HB := Ks_ HB hb; (try clear hb); (try clear hb2); (try clear hk); (try clear hi); obtain ⟨hcz39_0, hcz39_1, hfz39_0, hfz39_1⟩ := Ke2_ BK192.out) | ((with_reducible refine gate_callee (f := 106) rfl ?_); refine Kg_ (some 14) rfl rfl Try.func106 (by kernel_rfl) rfl #[.agg #[.string t196, .bool t197]] rfl ?_; (with_reducible refine (vec_Get.calls k t196 t197 t198 t199 t200 t201 t202 false _ A3.out).mono ?_); rintro e w40 ⟨rfl, hb⟩; refine ⟨_, rfl, ?_⟩; replace BK192 := Aside0.mk (blk_below (g := gb192) (o := .cells #[.string t196, .bool t197] 134 (0, 0)) (by refine Kv_ ?_; refine blk_put (cs := #[.string t196, .bool a0_1]) ?_ 1 _ rfl; refine Kv_ ?_; refine blk_put (cs := #[.string a0_0, .bool a0_1]) ?_ 0 _ rfl; exact Kq_ BK192) hb); replace BK193 := Kf_ BK193 NB193_192 hb; replace BK194 := Kf_ BK194 NB194_192 hb; replace HB := Kt_ HB GE192 hb; (try clear hb); (try clear hb2); (try clear hk); (try clear hi)) | ((with_reducible refine gate_dst (N := 5) rfl ?_); refine Ka_ 5 #[.int .u64 0, .int .u64 0, .int .u64 0, .int .u64 0] 28 ?_; intro gb204 hg w41 hbox hb; have BK204 := Aside0.mk (hbox); have GW204 := Kw_ HB hg; have GE204 := GW204; have NB192_204 := Kl_ BK192 hg; have NB204_192 := Kr_ BK192 hg; have NB193_204 := Kl_ BK193 hg; have NB204_193 := Kr_ BK193 hg; have NB194_204 := Kl_ BK194 hg; have NB204_194 := Kr_ BK194 hg; replace BK192 := Kb_ BK192 hb; replace BK193 := Kb_ BK193 hb; replace BK194 := Kb_ BK194 hb; replace HB := Ks_ HB hb; clear hb hbox hg; have hnb42 := NB204_192.out; have hnc42 := NB192_204.out; have hnb43 := NB204_193.out; have hnc43 := NB193_204.out; have hnb44 := NB204_194.out; have hnc44 := NB194_204.out; obtain ⟨hcz45_0, hcz45_1, hcz45_2, hcz45_3, hfz45_0, hfz45_1, hfz45_2, hfz45_3⟩ := Ke4_ BK204.out; obtain ⟨hcz46_0, hcz46_1, hfz46_0, hfz46_1⟩ := Ke2_ BK192.out) | ((with_reducible refine gate_dst (N := 6) rfl ?_); refine Ka_ 6 #[.int .u64 0, .int .u64 0, .int .u64 0, .int .u64 0, .int .i64 0] 30 ?_; intro gb205 hg w47 hbox hb; have BK205 := Aside0.mk (hbox); have GW205 := Aside0.mk ((by rw [hg]; exact (below_size (K4a_ HB GE192 GE193 GE194 GE204)) : w.heap.size ≤ gb205)); have GE205 := GW205; have NB192_205 := Aside0.mk ((by rw [hg]; exact Nat.ne_of_lt (blk_lt (g := gb192) (o := .cells #[.string t202, .bool false] 134 (0, 0)) (by refine Kv_ ?_; refine blk_put (cs := #[.string t202, .bool t197]) ?_ 1 _ rfl; refine Kv_ ?_; refine blk_put (cs := #[.string t196, .bool t197]) ?_ 0 _ rfl; exact K1b_ BK192 NB192_204)) : gb192 ≠ gb205)); have NB205_192 := Aside0.mk ((by rw [hg]; exact Nat.ne_of_gt (blk_lt (g := gb192) (o := .cells #[.string t202, .bool false] 134 (0, 0)) (by refine Kv_ ?_; refine blk_put (cs := #[.string t202, .bool t197]) ?_ 1 _ rfl; refine Kv_ ?_; refine blk_put (cs := #[.string t196, .bool t197]) ?_ 0 _ rfl; exact K1b_ BK192 NB192_204)) : gb205 ≠ gb192)); have NB193_205 := Aside0.mk ((by rw [hg]; exact Nat.ne_of_lt (blk_lt (g := gb193) (o := .cells #[.int .u64 0, .int .u64 0, .int .u64 0, .int .u64 0, .int .i64 0] 30 (0, 0)) (K2b_ BK193 NB193_192 NB193_204)) : gb193 ≠ gb205)); have NB205_193 := Aside0.mk ((by rw [hg]; exact Nat.ne_of_gt (blk_lt (g := gb193) (o := .cells #[.int .u64 0, .int .u64 0, .int .u64 0, .int .u64 0, .int .i64 0] 30 (0, 0)) (K2b_ BK193 NB193_192 NB193_204)) : gb205 ≠ gb193)); have NB194_205 := Aside0.mk ((by rw [hg]; exact Nat.ne_of_lt (blk_lt (g := gb194) (o := .cells #[.string (⟨#[]⟩ : ByteArray), .bool false] 134 (0, 0)) (K2b_ BK194 NB194_192 NB194_204)) : gb194 ≠ gb205)); have NB205_194 := Aside0.mk ((by rw [hg]; exact Nat.ne_of_gt (blk_lt (g := gb194) (o := .cells #[.string (⟨#[]⟩ : ByteArray), .bool false] 134 (0, 0)) (K2b_ BK194 NB194_192 NB194_204)) : gb205 ≠ gb194)); have NB204_205 := Aside0.mk ((by rw [hg]; exact Nat.ne_of_lt (blk_lt (g := gb204) (o := .cells #[.int .u64 t198, .int .u64 t199, .int .u64 t200, .int .u64 t201] 28 (0, 0)) (by (repeat (first | (with_reducible first | refine blk_drewN ?_ _ | refine blk_drew ?_ | refine blk_alloc ?_ _) | refine blk_far ?_ NB204_192.out _)); refine blk_put (cs := #[.int .u64 t198, .int .u64 t199, .int .u64 t200, .int .u64 0]) ?_ 3 _ rfl; refine Kv_ ?_; refine blk_put (cs := #[.int .u64 t198, .int .u64 t199, .int .u64 0, .int .u64 0]) ?_ 2 _ rfl; refine Kv_ ?_; refine blk_put (cs := #[.int .u64 t198, .int .u64 0, .int .u64 0, .int .u64 0]) ?_ 1 _ rfl; refine Kv_ ?_; refine blk_put (cs := #[.int .u64 0, .int .u64 0, .int .u64 0, .int .u64 0]) ?_ 0 _ rfl; exact Kq_ BK204)) : gb204 ≠ gb205)); have NB205_204 := Aside0.mk ((by rw [hg]; exact Nat.ne_of_gt (blk_lt (g := gb204) (o := .cells #[.int .u64 t198, .int .u64 t199, .int .u64 t200, .int .u64 t201] 28 (0, 0)) (by (repeat (first | (with_reducible first | refine blk_drewN ?_ _ | refine blk_drew ?_ | refine blk_alloc ?_ _) | refine blk_far ?_ NB204_192.out _)); refine blk_put (cs := #[.int .u64 t198, .int .u64 t199, .int .u64 t200, .int .u64 0]) ?_ 3 _ rfl; refine Kv_ ?_; refine blk_put (cs := #[.int .u64 t198, .int .u64 t199, .int .u64 0, .int .u64 0]) ?_ 2 _ rfl; refine Kv_ ?_; refine blk_put (cs := #[.int .u64 t198, .int .u64 0, .int .u64 0, .int .u64 0]) ?_ 1 _ rfl; refine Kv_ ?_; refine blk_put (cs := #[.int .u64 0, .int .u64 0, .int .u64 0, .int .u64 0]) ?_ 0 _ rfl; exact Kq_ BK204)) : gb205 ≠ gb204)); replace BK192 := Aside0.mk (blk_below (g := gb192) (o := .cells #[.string t202, .bool false] 134 (0, 0)) (by refine Kv_ ?_; refine blk_put (cs := #[.string t202, .bool t197]) ?_ 1 _ rfl; refine Kv_ ?_; refine blk_put (cs := #[.string t196, .bool t197]) ?_ 0 _ rfl; exact K1b_ BK192 NB192_204) hb); replace BK193 := Aside0.mk (blk_below (g := gb193) (o := .cells #[.int .u64 0, .int .u64 0, .int .u64 0, .int .u64 0, .int .i64 0] 30 (0, 0)) (K2b_ BK193 NB193_192 NB193_204) hb); replace BK194 := Aside0.mk (blk_below (g := gb194) (o := .cells #[.string (⟨#[]⟩ : ByteArray), .bool false] 134 (0, 0)) (K2b_ BK194 NB194_192 NB194_204) hb); replace BK204 := Aside0.mk (blk_below (g := gb204) (o := .cells #[.int .u64 t198, .int .u64 t199, .int .u64 t200, .int .u64 t201] 28 (0, 0)) (by (repeat (first | (with_reducible first | refine blk_drewN ?_ _ | refine blk_drew ?_ | refine blk_alloc ?_ _) | refine blk_far ?_ NB204_192.out _)); refine blk_put (cs := #[.int .u64 t198, .int .u64 t199, .int .u64 t200, .int .u64 0]) ?_ 3 _ rfl; refine Kv_ ?_; refine blk_put (cs := #[.int .u64 t198, .int .u64 t199, .int .u64 0, .int .u64 0]) ?_ 2 _ rfl; refine Kv_ ?_; refine blk_put (cs := #[.int .u64 t198, .int .u64 0, .int .u64 0, .int .u64 0]) ?_ 1 _ rfl; refine Kv_ ?_; refine blk_put (cs := #[.int .u64 0, .int .u64 0, .int .u64 0, .int .u64 0]) ?_ 0 _ rfl; exact Kq_ BK204) hb); replace HB := Aside0.mk (below_step (K4a_ HB GE192 GE193 GE194 GE204) hb); clear hb hbox hg; have hnb48 := NB205_192.out; have hnc48 := NB192_205.out; have hnb49 := NB205_193.out; have hnc49 := NB193_205.out; have hnb50 := NB205_194.out; have hnc50 := NB194_205.out; have hnb51 := NB205_204.out; have hnc51 := NB204_205.out; obtain ⟨hcz52_0, hcz52_1, hcz52_2, hcz52_3, hcz52_4, hfz52_0, hfz52_1, hfz52_2, hfz52_3, hfz52_4⟩ := Ke5_ BK205.out; obtain ⟨hcz53_0, hcz53_1, hfz53_0, hfz53_1⟩ := Ke2_ BK192.out) | (go_at_call 69; (with_reducible refine (stamp_Right.calls t198 t199 t200 t201 (wrap64 (t195)) true _ A30.out).mono ?_); rintro e w54 ⟨rfl, hb⟩; replace BK192 := Kf_ BK192 NB192_205 hb; replace BK193 := Kf_ BK193 NB193_205 hb; replace BK194 := Kf_ BK194 NB194_205 hb; replace BK204 := Kf_ BK204 NB204_205 hb; replace BK205 := Aside0.mk (blk_below (g := gb205) (o := .cells #[.int .u64 t198, .int .u64 t199, .int .u64 t200, .int .u64 t201, .int .i64 (wrap64 (t195))] 30 (0, 0)) (by refine Kv_ ?_; refine blk_put (cs := #[.int .u64 t198, .int .u64 t199, .int .u64 t200, .int .u64 t201, .int .i64 0]) ?_ 4 _ rfl; refine Kv_ ?_; refine blk_put (cs := #[.int .u64 t198, .int .u64 t199, .int .u64 t200, .int .u64 0, .int .i64 0]) ?_ 3 _ rfl; refine Kv_ ?_; refine blk_put (cs := #[.int .u64 t198, .int .u64 t199, .int .u64 0, .int .u64 0, .int .i64 0]) ?_ 2 _ rfl; refine Kv_ ?_; refine blk_put (cs := #[.int .u64 t198, .int .u64 0, .int .u64 0, .int .u64 0, .int .i64 0]) ?_ 1 _ rfl; refine Kv_ ?_; refine blk_put (cs := #[.int .u64 0, .int .u64 0, .int .u64 0, .int .u64 0, .int .i64 0]) ?_ 0 _ rfl; exact Kq_ BK205) hb); replace HB := Kt_ HB GE205 hb; (try clear hb); (try clear hb2); (try clear hk); (try clear hi)))
  replace BK192 := Kd_ BK192
  replace BK193 := Kd_ BK193
  replace BK194 := Kd_ BK194
  replace BK204 := Kd_ BK204
  replace BK205 := Kd_ BK205
  replace HB := Aside0.mk (below_drew1 HB.out)
  refine start_ (n := 4) (S := fun w' => w'.cell? ⟨gb205, 0, none⟩ = some (.int .u64 t198) ∧ w'.cell? ⟨gb205, 1, none⟩ = some (.int .u64 t199) ∧ w'.cell? ⟨gb205, 2, none⟩ = some (.int .u64 t200) ∧ w'.cell? ⟨gb205, 3, none⟩ = some (.int .u64 t201) ∧ w'.cell? ⟨gb205, 4, none⟩ = some (.int .i64 (wrap64 (t195))) ∧ w'.cell? ⟨gb192, 0, none⟩ = some (.string t202) ∧ w'.cell? ⟨gb192, 1, none⟩ = some (.bool false)) (ds := []) #[false, false, false, false] (by kernel_rfl) rfl rfl ⟨Km_ BK205 0, Km_ BK205 1, Km_ BK205 2, Km_ BK205 3, Km_ BK205 4, Km_ BK192 0, Km_ BK192 1⟩ (fun hHeld => ?_)
  generalize w54.drew = w55 at BK192 BK193 BK194 BK204 BK205 HB hHeld ⊢
  refine Ko_ 0 28 #[true, false, false, false] (by kernel_rfl) hHeld ?_
  refine Ko_ 1 29 #[true, true, false, false] (by kernel_rfl) hHeld ?_
  refine one_ (i := 2) (N := none) #[true, true, true, false] rfl rfl (by kernel_rfl) (by decide) (fun K hK => ?_)
  have hs56 : w55.cell? ⟨gb193, 0, none⟩ = some (.int .u64 0) := (blk_cell BK193.out 0).trans rfl
  have hfs56 := blk_frozen BK193.out 0
  have hns56_0 := NB192_193.out
  have hns56_2 := NB194_193.out
  have hns56_3 := NB204_193.out
  have hns56_4 := NB205_193.out
  have hms56_0 := NB193_192.out
  have hms56_2 := NB193_194.out
  have hms56_3 := NB193_204.out
  have hms56_4 := NB193_205.out
  have hs57 : w55.cell? ⟨gb193, 1, none⟩ = some (.int .u64 0) := (blk_cell BK193.out 1).trans rfl
  have hfs57 := blk_frozen BK193.out 1
  have hns57_0 := NB192_193.out
  have hns57_2 := NB194_193.out
  have hns57_3 := NB204_193.out
  have hns57_4 := NB205_193.out
  have hms57_0 := NB193_192.out
  have hms57_2 := NB193_194.out
  have hms57_3 := NB193_204.out
  have hms57_4 := NB193_205.out
  have hs58 : w55.cell? ⟨gb193, 2, none⟩ = some (.int .u64 0) := (blk_cell BK193.out 2).trans rfl
  have hfs58 := blk_frozen BK193.out 2
  have hns58_0 := NB192_193.out
  have hns58_2 := NB194_193.out
  have hns58_3 := NB204_193.out
  have hns58_4 := NB205_193.out
  have hms58_0 := NB193_192.out
  have hms58_2 := NB193_194.out
  have hms58_3 := NB193_204.out
  have hms58_4 := NB193_205.out
  have hs59 : w55.cell? ⟨gb193, 3, none⟩ = some (.int .u64 0) := (blk_cell BK193.out 3).trans rfl
  have hfs59 := blk_frozen BK193.out 3
  have hns59_0 := NB192_193.out
  have hns59_2 := NB194_193.out
  have hns59_3 := NB204_193.out
  have hns59_4 := NB205_193.out
  have hms59_0 := NB193_192.out
  have hms59_2 := NB193_194.out
  have hms59_3 := NB193_204.out
  have hms59_4 := NB193_205.out
  have hs60 : w55.cell? ⟨gb193, 4, none⟩ = some (.int .i64 0) := (blk_cell BK193.out 4).trans rfl
  have hfs60 := blk_frozen BK193.out 4
  have hns60_0 := NB192_193.out
  have hns60_2 := NB194_193.out
  have hns60_3 := NB204_193.out
  have hns60_4 := NB205_193.out
  have hms60_0 := NB193_192.out
  have hms60_2 := NB193_194.out
  have hms60_3 := NB193_204.out
  have hms60_4 := NB193_205.out
  refine skip_ (w1 := ?_) (by rfl) rfl ?_ ?_
  rotate_left
  · go_simp
    rfl
  refine hK.out _ _ ⟨(Kj_ NB205_193 ((Kj_ NB205_193 ((Kj_ NB205_193 ((Kj_ NB205_193 ((Kj_ NB205_193 (hHeld.1)))))))))), (Kj_ NB205_193 ((Kj_ NB205_193 ((Kj_ NB205_193 ((Kj_ NB205_193 ((Kj_ NB205_193 (hHeld.2.1)))))))))), (Kj_ NB205_193 ((Kj_ NB205_193 ((Kj_ NB205_193 ((Kj_ NB205_193 ((Kj_ NB205_193 (hHeld.2.2.1)))))))))), (Kj_ NB205_193 ((Kj_ NB205_193 ((Kj_ NB205_193 ((Kj_ NB205_193 ((Kj_ NB205_193 (hHeld.2.2.2.1)))))))))), (Kj_ NB205_193 ((Kj_ NB205_193 ((Kj_ NB205_193 ((Kj_ NB205_193 ((Kj_ NB205_193 (hHeld.2.2.2.2.1)))))))))), (Kj_ NB192_193 ((Kj_ NB192_193 ((Kj_ NB192_193 ((Kj_ NB192_193 ((Kj_ NB192_193 (hHeld.2.2.2.2.2.1)))))))))), (Kj_ NB192_193 ((Kj_ NB192_193 ((Kj_ NB192_193 ((Kj_ NB192_193 ((Kj_ NB192_193 (hHeld.2.2.2.2.2.2))))))))))⟩ (fun hHeld => ?_)
  clear hK K
  refine one_ (i := 3) (N := none) #[true, true, true, true] rfl rfl (by kernel_rfl) (by decide) (fun K hK => ?_)
  have hs61 : w55.cell? ⟨gb194, 0, none⟩ = some (.string (⟨#[]⟩ : ByteArray)) := (blk_cell BK194.out 0).trans rfl
  have hfs61 := blk_frozen BK194.out 0
  have hns61_0 := NB192_194.out
  have hns61_1 := NB193_194.out
  have hns61_3 := NB204_194.out
  have hns61_4 := NB205_194.out
  have hms61_0 := NB194_192.out
  have hms61_1 := NB194_193.out
  have hms61_3 := NB194_204.out
  have hms61_4 := NB194_205.out
  have hs62 : w55.cell? ⟨gb194, 1, none⟩ = some (.bool false) := (blk_cell BK194.out 1).trans rfl
  have hfs62 := blk_frozen BK194.out 1
  have hns62_0 := NB192_194.out
  have hns62_1 := NB193_194.out
  have hns62_3 := NB204_194.out
  have hns62_4 := NB205_194.out
  have hms62_0 := NB194_192.out
  have hms62_1 := NB194_193.out
  have hms62_3 := NB194_204.out
  have hms62_4 := NB194_205.out
  refine skip_ (w1 := ?_) (by rfl) rfl ?_ ?_
  rotate_left
  · go_simp
    rfl
  refine hK.out _ _ ⟨(Kj_ NB205_194 ((Kj_ NB205_194 (hHeld.1)))), (Kj_ NB205_194 ((Kj_ NB205_194 (hHeld.2.1)))), (Kj_ NB205_194 ((Kj_ NB205_194 (hHeld.2.2.1)))), (Kj_ NB205_194 ((Kj_ NB205_194 (hHeld.2.2.2.1)))), (Kj_ NB205_194 ((Kj_ NB205_194 (hHeld.2.2.2.2.1)))), (Kj_ NB192_194 ((Kj_ NB192_194 (hHeld.2.2.2.2.2.1)))), (Kj_ NB192_194 ((Kj_ NB192_194 (hHeld.2.2.2.2.2.2))))⟩ (fun hHeld => ?_)
  clear hK K
  refine done_ (by kernel_rfl) ?_
  try go_wp2
  refine bodyPost_ret (results_cc rfl _ _ gb193 gb194 30 134 #[.int .u64 t198, .int .u64 t199, .int .u64 t200, .int .u64 t201, .int .i64 (wrap64 (t195))] #[.string t202, .bool false] (0, 0) (0, 0) _ _ rfl (by (repeat (first | (with_reducible first | refine blk_drewN ?_ _ | refine blk_drew ?_ | refine blk_alloc ?_ _) | refine blk_far ?_ NB193_194.out _)); refine blk_put (cs := #[.int .u64 t198, .int .u64 t199, .int .u64 t200, .int .u64 t201, .int .i64 0]) ?_ 4 _ rfl; refine Kv_ ?_; refine blk_put (cs := #[.int .u64 t198, .int .u64 t199, .int .u64 t200, .int .u64 0, .int .i64 0]) ?_ 3 _ rfl; refine Kv_ ?_; refine blk_put (cs := #[.int .u64 t198, .int .u64 t199, .int .u64 0, .int .u64 0, .int .i64 0]) ?_ 2 _ rfl; refine Kv_ ?_; refine blk_put (cs := #[.int .u64 t198, .int .u64 0, .int .u64 0, .int .u64 0, .int .i64 0]) ?_ 1 _ rfl; refine Kv_ ?_; refine blk_put (cs := #[.int .u64 0, .int .u64 0, .int .u64 0, .int .u64 0, .int .i64 0]) ?_ 0 _ rfl; exact Kq_ BK193) Try.underlying30 rfl (by kernel_rfl) rfl (by refine Kv_ ?_; refine blk_put (cs := #[.string t202, .bool false]) ?_ 1 _ rfl; refine Kv_ ?_; refine blk_put (cs := #[.string (⟨#[]⟩ : ByteArray), .bool false]) ?_ 0 _ rfl; exact K1b_ BK194 NB194_193) Try.underlying134 rfl (by kernel_rfl)) rfl ?_
  exact ⟨Kh_, by repeat (first | (with_reducible first | exact HB.out | apply below_alloc | apply pw_below_drewN | apply below_drew1 | refine below_set ?_ GE192.out | refine below_set ?_ GE193.out | refine below_set ?_ GE194.out | refine below_set ?_ GE204.out | refine below_set ?_ GE205.out) | exact HB.out)⟩
/-! ### pack_Reader_Done: function 100 -/
def pack_Reader_Done.f (a0_0 : ByteArray) (a0_1 : Bool) : Option (Bool) := if a0_1 = true then (some false) else (some (a0_0.toList == ([] : List UInt8)))
set_option maxHeartbeats 8000000 in
set_option maxRecDepth 100000 in
theorem pack_Reader_Done.calls (a0_0 : ByteArray) (a0_1 : Bool) (r : Bool) (w : World) (h : pack_Reader_Done.f a0_0 a0_1 = some r) :
    Calls Try.prog 100 #[.agg #[.string a0_0, .bool a0_1]] w fun e w' => e = .returned (.bool r) ∧ Below w.heap.size w w' := by
  have hu134 := Try.underlying134
  have HB := Aside0.mk (Below.refl w.heap.size w)
  have H : (if a0_1 = true then (some false) else (some (a0_0.toList == ([] : List UInt8)))) = some r := h
  clear h
  by_cases c2 : a0_1 = true
  · subst c2
    have H1 : (some false) = some r := by rw [if_pos rfl] at H; exact H
    clear H
    have H := H1
    clear H1
    obtain rfl := Option.some.inj H
    go_enter Try.func100, Try.ntmps100
    go_wp2_with (first | ((with_reducible refine gate_dst (N := 1) rfl ?_); refine Ka_ 1 #[.string a0_0, .bool true] 134 ?_; intro gb207 hg w3 hbox hb; have BK207 := Aside0.mk (hbox); have GW207 := Kw_ HB hg; have GE207 := GW207; replace HB := Ks_ HB hb; clear hb hbox hg; obtain ⟨hcz4_0, hcz4_1, hfz4_0, hfz4_1⟩ := Ke2_ BK207.out))
    go_ret
    exact ⟨Kh_, Kz_ HB GE207⟩
  replace c2 := Bool.eq_false_iff.mpr c2
  subst c2
  have H1 : (some (a0_0.toList == ([] : List UInt8))) = some r := by rw [if_neg (show ¬ (false = true) by decide)] at H; exact H
  clear H
  have H := H1
  clear H1
  obtain rfl := Option.some.inj H
  go_enter Try.func100, Try.ntmps100
  go_wp2_with (first | ((with_reducible refine gate_dst (N := 1) rfl ?_); refine Ka_ 1 #[.string a0_0, .bool false] 134 ?_; intro gb207 hg w5 hbox hb; have BK207 := Aside0.mk (hbox); have GW207 := Kw_ HB hg; have GE207 := GW207; replace HB := Ks_ HB hb; clear hb hbox hg; obtain ⟨hcz6_0, hcz6_1, hfz6_0, hfz6_1⟩ := Ke2_ BK207.out))
  go_ret
  exact ⟨Kh_, Kz_ HB GE207⟩
end Go.Proofs.Ytoagfdpgnfinhaa.Q

/- Plain lists of bytes: numbers of as few bytes as they need, numbers of a fixed size, texts behind their length. No program here. -/
namespace Go.Proofs.Ytoagfdpgnfinhaa.Plain

/-! ### numbers of as few bytes as they need -/
def vary (n : Nat) : List Nat := if n < 128 then [n] else (n % 128 + 128) :: vary (n / 128)
termination_by n
decreasing_by omega

theorem vary_small {n : Nat} (h : n < 128) : vary n = [n] := by rw [vary, if_pos h]
theorem vary_big {n : Nat} (h : ¬ n < 128) : vary n = (n % 128 + 128) :: vary (n / 128) := by rw [vary, if_neg h]
theorem vary_ne_nil (n : Nat) : vary n ≠ [] := by
  by_cases h : n < 128
  · rw [vary_small h]; simp
  · rw [vary_big h]; simp
theorem vary_pos (n : Nat) : 0 < (vary n).length := List.length_pos_iff.2 (vary_ne_nil n)
theorem vary_lt (n : Nat) : ∀ b ∈ vary n, b < 256 := by
  induction n using Nat.strongRecOn with
  | _ n ih =>
    intro b hb
    by_cases h : n < 128
    · rw [vary_small h] at hb; simp at hb; omega
    · rw [vary_big h] at hb
      rcases List.mem_cons.1 hb with rfl | hb
      · omega
      · exact ih (n / 128) (by omega) b hb
/-- how many bytes -/
theorem vary_len_le (k : Nat) : ∀ n, n < 128 ^ (k + 1) → (vary n).length ≤ k + 1 := by
  induction k with
  | zero => intro n h; rw [vary_small (by simpa using h)]; simp
  | succ k ih =>
    intro n h
    by_cases h1 : n < 128
    · rw [vary_small h1]; simp
    · rw [vary_big h1]
      have := ih (n / 128) (by rw [Nat.div_lt_iff_lt_mul (by omega)]; rw [Nat.pow_succ] at h; exact h)
      simp; omega
theorem vary_len_gt (k : Nat) : ∀ n, 128 ^ k ≤ n → k < (vary n).length := by
  induction k with
  | zero => intro n _; exact vary_pos n
  | succ k ih =>
    intro n h
    have h1 : ¬ n < 128 := by
      have : 128 ^ 1 ≤ 128 ^ (k + 1) := Nat.pow_le_pow_right (by omega) (by omega)
      omega
    rw [vary_big h1]
    have := ih (n / 128) (by rw [Nat.le_div_iff_mul_le (by omega), ← Nat.pow_succ]; exact h)
    simp; omega
theorem vary_len_ten {n : Nat} (h : n < 18446744073709551616) : (vary n).length ≤ 10 := vary_len_le 9 n (by omega)
/-- it is the length alone that a number's bytes can be told by: where they end -/
theorem vary_prefix (n : Nat) : ∀ m (r s : List Nat), vary n ++ r = vary m ++ s → n = m ∧ r = s := by
  induction n using Nat.strongRecOn with
  | _ n ih =>
    intro m r s h
    by_cases h1 : n < 128
    · rw [vary_small h1] at h
      by_cases h2 : m < 128
      · rw [vary_small h2] at h
        simp at h; exact h
      · rw [vary_big h2] at h
        simp at h; omega
    · rw [vary_big h1] at h
      by_cases h2 : m < 128
      · rw [vary_small h2] at h
        simp at h; omega
      · rw [vary_big h2] at h
        simp only [List.cons_append, List.cons.injEq] at h
        obtain ⟨e, h⟩ := h
        obtain ⟨e2, h⟩ := ih (n / 128) (by omega) (m / 128) r s h
        exact ⟨by omega, h⟩
theorem vary_inj {n m : Nat} (h : vary n = vary m) : n = m := (vary_prefix n m [] [] (by rw [h])).1
/-- the byte at a place -/
theorem vary_get (i : Nat) : ∀ n, i < (vary n).length → (vary n)[i]? = some (n / 128 ^ i % 128 + if i + 1 < (vary n).length then 128 else 0) := by
  induction i with
  | zero =>
    intro n hi
    by_cases h : n < 128
    · rw [vary_small h]; simp; omega
    · rw [vary_big h]
      have := vary_pos (n / 128)
      simp [this]
  | succ i ih =>
    intro n hi
    by_cases h : n < 128
    · rw [vary_small h] at hi; simp at hi
    · have e := vary_big h
      have hl : (vary n).length = (vary (n / 128)).length + 1 := by rw [e]; rfl
      rw [e, List.getElem?_cons_succ, ih (n / 128) (by omega)]
      congr 2
      · rw [Nat.div_div_eq_div_mul, Nat.pow_succ, Nat.mul_comm 128]
      · simp
/-- the end: what is left of the number -/
theorem vary_len_iff (n i : Nat) : i < (vary n).length ↔ i = 0 ∨ 128 ^ i ≤ n := by
  constructor
  · intro h
    by_cases h0 : i = 0
    · exact .inl h0
    · refine .inr ?_
      rcases Nat.lt_or_ge n (128 ^ i) with hl | hl
      · obtain ⟨j, rfl⟩ : ∃ j, i = j + 1 := ⟨i - 1, by omega⟩
        have := vary_len_le j n hl
        omega
      · exact hl
  · rintro (rfl | h)
    · exact vary_pos n
    · exact vary_len_gt i n h

/-! ### numbers of a fixed size, the greatest byte first -/
def be : Nat → Nat → List Nat
  | 0, _ => []
  | k + 1, a => (a / 256 ^ k % 256) :: be k a
def bev : List Nat → Nat
  | [] => 0
  | b :: l => b * 256 ^ l.length + bev l
theorem be_len (k a : Nat) : (be k a).length = k := by induction k with | zero => rfl | succ k ih => simp [be, ih]
theorem be_lt (k a : Nat) : ∀ b ∈ be k a, b < 256 := by
  induction k with
  | zero => intro b h; simp [be] at h
  | succ k ih => intro b h; simp only [be, List.mem_cons] at h; rcases h with rfl | h <;> first | omega | exact ih b h
theorem bev_lt (l : List Nat) (h : ∀ b ∈ l, b < 256) : bev l < 256 ^ l.length := by
  induction l with
  | nil => simp [bev]
  | cons b l ih =>
    have h1 := ih (fun x hx => h x (by simp [hx]))
    have h2 : b < 256 := h b (by simp)
    simp only [bev, List.length_cons, Nat.pow_succ]
    have : b * 256 ^ l.length ≤ 255 * 256 ^ l.length := Nat.mul_le_mul_right _ (by omega)
    omega
theorem bev_be (k a : Nat) : bev (be k a) = a % 256 ^ k := by
  induction k with
  | zero => simp [be, bev, Nat.mod_one]
  | succ k ih =>
    simp only [be, bev, be_len, ih]
    rw [Nat.pow_succ, Nat.mod_mul, Nat.add_comm, Nat.mul_comm]
theorem be_bev (l : List Nat) (h : ∀ b ∈ l, b < 256) : be l.length (bev l) = l := by
  induction l with
  | nil => rfl
  | cons b l ih =>
    have h1 : ∀ b ∈ l, b < 256 := fun x hx => h x (by simp [hx])
    have h2 : b < 256 := h b (by simp)
    have h3 := bev_lt l h1
    have key : ∀ k, k ≤ l.length → be k (b * 256 ^ l.length + bev l) = be k (bev l) := by
      intro k
      induction k with
      | zero => intro _; rfl
      | succ k ihk =>
        intro hk
        simp only [be]
        rw [ihk (by omega)]
        congr 1
        have e : b * 256 ^ l.length = (b * 256 ^ (l.length - (k + 1))) * 256 * 256 ^ k := by
          rw [Nat.mul_assoc, Nat.mul_assoc, ← Nat.pow_succ', ← Nat.pow_add]
          congr 2; omega
        rw [e, Nat.add_comm, Nat.add_mul_div_right _ _ (Nat.pow_pos (by omega))]
        omega
    simp only [List.length_cons, bev, be]
    rw [key _ (Nat.le_refl _), ih h1]
    congr 1
    rw [Nat.add_comm, Nat.add_mul_div_right _ _ (Nat.pow_pos (by omega)), Nat.div_eq_of_lt h3]
    omega
theorem be_inj {k a b : Nat} (ha : a < 256 ^ k) (hb : b < 256 ^ k) (h : be k a = be k b) : a = b := by
  have := congrArg bev h
  rwa [bev_be, bev_be, Nat.mod_eq_of_lt ha, Nat.mod_eq_of_lt hb] at this
theorem bev_snoc (l : List Nat) (b : Nat) : bev (l ++ [b]) = bev l * 256 + b := by
  induction l with
  | nil => simp [bev]
  | cons a l ih =>
    simp only [List.cons_append, bev, ih, List.length_append, List.length_singleton, Nat.pow_succ]
    rw [Nat.add_mul, Nat.mul_assoc]; omega
/-- their order as bytes -/
def less : List Nat → List Nat → Bool
  | _, [] => false
  | [], _ :: _ => true
  | a :: l, b :: m => decide (a < b) || (decide (a = b) && less l m)
theorem less_be (k : Nat) : ∀ a b : Nat, a < 256 ^ k → b < 256 ^ k → (less (be k a) (be k b) = true ↔ a < b) := by
  have main : ∀ l m : List Nat, l.length = m.length → (∀ x ∈ l, x < 256) → (∀ x ∈ m, x < 256) → (less l m = true ↔ bev l < bev m) := by
    intro l
    induction l with
    | nil => intro m hl _ _; cases m with | nil => simp [less] | cons => simp at hl
    | cons a l ih =>
      intro m hl h1 h2
      cases m with
      | nil => simp at hl
      | cons b m =>
        have hl' : l.length = m.length := by simpa using hl
        have g1 := bev_lt l (fun x hx => h1 x (by simp [hx]))
        have g2 := bev_lt m (fun x hx => h2 x (by simp [hx]))
        have hi := ih m hl' (fun x hx => h1 x (by simp [hx])) (fun x hx => h2 x (by simp [hx]))
        simp only [less, bev, Bool.or_eq_true, Bool.and_eq_true, decide_eq_true_eq, hi]
        rw [hl'] at g1 ⊢
        rcases Nat.lt_trichotomy a b with h | h | h
        · have : (a + 1) * 256 ^ m.length ≤ b * 256 ^ m.length := Nat.mul_le_mul_right _ h
          rw [Nat.add_mul] at this
          constructor
          · intro _; omega
          · intro _; exact .inl h
        · subst h
          constructor
          · rintro (h | ⟨_, h⟩) <;> omega
          · intro h; exact .inr ⟨rfl, by omega⟩
        · have : (b + 1) * 256 ^ m.length ≤ a * 256 ^ m.length := Nat.mul_le_mul_right _ h
          rw [Nat.add_mul] at this
          constructor
          · rintro (h | ⟨h, _⟩) <;> omega
          · intro h; omega
  intro a b ha hb
  rw [main _ _ (by rw [be_len, be_len]) (be_lt k a) (be_lt k b), bev_be, bev_be, Nat.mod_eq_of_lt ha, Nat.mod_eq_of_lt hb]
end Go.Proofs.Ytoagfdpgnfinhaa.Plain

namespace Go.Proofs.Ytoagfdpgnfinhaa.Q
open Go.RowKit Go.Proofs.YtoagfdpgnfinhaaW.PrintWords Go.Proofs.YtoagfdpgnfinhaaW.PrintLast Go.Proofs.YtoagfdpgnfinhaaW.PrintMore
attribute [local go_sem] max2_int min2_int max_two min_two max_three min_three max_four min_four   -- for this text's walks alone
set_option linter.unusedVariables false
set_option linter.unusedSimpArgs false
/-! ### tenementlaw15_Mark_mark: function 25 -/
theorem w64_0 : wrap64 0 = 0 := by first | rfl | decide | (unfold wrap64; omega)
theorem w64_1 : wrap64 1 = 1 := by first | rfl | decide | (unfold wrap64; omega)
theorem w64_2 : wrap64 2 = 2 := by first | rfl | decide | (unfold wrap64; omega)
theorem w64_3 : wrap64 3 = 3 := by first | rfl | decide | (unfold wrap64; omega)
attribute [local go_sem] w64_0 w64_1 w64_2 w64_3   -- for this text's walks alone
def tenementlaw15_Mark_mark.l0 : Nat → Int → Int → Int → Int → Int → Int → Bool → Int → Int → Int → Int → Int → Option (Int × Int × Int × Int × Int)
  | 0, _, _, _, _, _, _, _, _, _, _, _, _ => none
  | k + 1, x4, x300000, x300001, x300002, x300003, x300004, x300005, x302000, x302001, x302002, x302003, x302004 => if x4 < 3 then (if x4 = 0 then (tenementlaw15_Mark_mark.l0 k (wrap64 (x4 + 1)) x300000 x300001 x300002 x300003 x300004 x300005 (Int.tmod x300000 4) x302001 x302002 x302003 x302004) else (if x4 = 1 then (tenementlaw15_Mark_mark.l0 k (wrap64 (x4 + 1)) x300000 x300001 x300002 x300003 x300004 x300005 x302000 (Int.tmod x300001 4) x302002 x302003 x302004) else (if x4 = 2 then (tenementlaw15_Mark_mark.l0 k (wrap64 (x4 + 1)) x300000 x300001 x300002 x300003 x300004 x300005 x302000 x302001 (Int.tmod x300002 4) x302003 x302004) else (none)))) else (if x302004 = 1 then (some (IntKind.u64.wrap (1 + x302000), x302001, x302002, x302003, x302004)) else (if x302004 = 2 then (some (x302000, IntKind.u64.wrap (1 + x302001), x302002, x302003, x302004)) else (if x302004 = 3 then (some (x302000, x302001, IntKind.u64.wrap (1 + x302002), x302003, x302004)) else (if x302004 = 4 then (some (x302000, x302001, x302002, IntKind.u64.wrap (1 + x302003), x302004)) else (none)))))
def tenementlaw15_Mark_mark.f (k : Nat) (a0_0 : Int) (a0_1 : Int) (a0_2 : Int) (a0_3 : Int) (a0_4 : Int) (a0_5 : Bool) : Option (Int × Int × Int × Int × Int) := if a0_5 = true then (tenementlaw15_Mark_mark.l0 k 0 a0_0 a0_1 a0_2 a0_3 a0_4 a0_5 0 0 0 0 (wrap64 (1 + (wrap64 (Int.tmod (IntKind.u64.wrap (a0_4)) 3))))) else (some (a0_0, a0_1, a0_2, a0_3, a0_4))
theorem tenementlaw15_Mark_mark.mono_l : ∀ k, (∀ y0 y1 y2 y3 y4 y5 y6 y7 y8 y9 y10 y11, LeO (tenementlaw15_Mark_mark.l0 k y0 y1 y2 y3 y4 y5 y6 y7 y8 y9 y10 y11) (tenementlaw15_Mark_mark.l0 (k + 1) y0 y1 y2 y3 y4 y5 y6 y7 y8 y9 y10 y11))
  | 0 => fun _ _ _ _ _ _ _ _ _ _ _ _ r h => by simp [tenementlaw15_Mark_mark.l0] at h
  | k + 1 => by
    have ih0 := tenementlaw15_Mark_mark.mono_l k
    · intro y0 y1 y2 y3 y4 y5 y6 y7 y8 y9 y10 y11
      unfold tenementlaw15_Mark_mark.l0
      repeat' first
      | (with_reducible exact ih0 _ _ _ _ _ _ _ _ _ _ _ _)
      | (with_reducible exact LeO.refl _)
      | (with_reducible exact LeO.none _)
      | (with_reducible refine LeO.ite ?_ ?_)
      | (with_reducible refine LeO.bind ?_ (fun _ => ?_))
      | exact ih0 _ _ _ _ _ _ _ _ _ _ _ _
      | exact LeO.none _
      | refine LeO.ite ?_ ?_
      | refine LeO.bind ?_ (fun _ => ?_)
theorem tenementlaw15_Mark_mark.mono : ∀ a0 a1 a2 a3 a4 a5 k, LeO (tenementlaw15_Mark_mark.f k a0 a1 a2 a3 a4 a5) (tenementlaw15_Mark_mark.f (k + 1) a0 a1 a2 a3 a4 a5) := by
  intro a0 a1 a2 a3 a4 a5 k
  have ih0 := tenementlaw15_Mark_mark.mono_l k
  unfold tenementlaw15_Mark_mark.f
  repeat' first
      | (with_reducible exact ih0 _ _ _ _ _ _ _ _ _ _ _ _)
      | (with_reducible exact LeO.refl _)
      | (with_reducible exact LeO.none _)
      | (with_reducible refine LeO.ite ?_ ?_)
      | (with_reducible refine LeO.bind ?_ (fun _ => ?_))
      | exact ih0 _ _ _ _ _ _ _ _ _ _ _ _
      | exact LeO.none _
      | refine LeO.ite ?_ ?_
      | refine LeO.bind ?_ (fun _ => ?_)
def tenementlaw15_Mark_mark.T8 : Bool × List (List Nat × List Nat) := (true, [([], []), ([0], [0]), ([1], [1]), ([], []), ([3], [3]), ([4], [4]), ([], []), ([6, 5], [5, 6]), ([7], [7]), ([8], [8]), ([], []), ([10, 2, 0, 1, 2, 3, 4, 5, 6, 7, 8, 9], [2, 10]), ([11, 9, 0, 1, 2, 3, 4, 5, 6, 7, 8, 9], [9, 11])])
def tenementlaw15_Mark_mark.B8 : List Nat := [0, 1, 3, 0, 8, 24, 0, 120, 248, 504, 0, 2047, 4095]
theorem tenementlaw15_Mark_mark.tab8 : rtab .any (opsOf Try.f25 8) = tenementlaw15_Mark_mark.T8 := by kernel_rfl
theorem tenementlaw15_Mark_mark.bits8 : waitsOk tenementlaw15_Mark_mark.T8.2 tenementlaw15_Mark_mark.B8 = true := by kernel_rfl
set_option maxHeartbeats 8000000 in
set_option maxRecDepth 100000 in
theorem tenementlaw15_Mark_mark.calls (k : Nat) (a0_0 : Int) (a0_1 : Int) (a0_2 : Int) (a0_3 : Int) (a0_4 : Int) (a0_5 : Bool) (r1 : Int) (r2 : Int) (r3 : Int) (r4 : Int) (r5 : Int) (w : World) (h : tenementlaw15_Mark_mark.f k a0_0 a0_1 a0_2 a0_3 a0_4 a0_5 = some (r1, r2, r3, r4, r5)) :
    Calls Try.prog 25 #[.agg #[.int .u64 a0_0, .int .u64 a0_1, .int .u64 a0_2, .int .u64 a0_3, .int .i64 a0_4, .bool a0_5]] w fun e w' => e = .returned (.agg #[.int .u64 r1, .int .u64 r2, .int .u64 r3, .int .u64 r4, .int .i64 r5]) ∧ Below w.heap.size w w' := by
  have hu39 := Try.underlying39
  have hu30 := Try.underlying30
  have HB := Aside0.mk (Below.refl w.heap.size w)
  have H : (if a0_5 = true then (tenementlaw15_Mark_mark.l0 k 0 a0_0 a0_1 a0_2 a0_3 a0_4 a0_5 0 0 0 0 (wrap64 (1 + (wrap64 (Int.tmod (IntKind.u64.wrap (a0_4)) 3))))) else (some (a0_0, a0_1, a0_2, a0_3, a0_4))) = some (r1, r2, r3, r4, r5) := h
  clear h
  by_cases c2 : a0_5 = true
  rotate_left
  · replace c2 := Bool.eq_false_iff.mpr c2
    subst c2
    have H1 : (some (a0_0, a0_1, a0_2, a0_3, a0_4)) = some (r1, r2, r3, r4, r5) := by rw [if_neg (show ¬ (false = true) by decide)] at H; exact H
    clear H
    have H := H1
    clear H1
    simp only [Option.some.injEq, Prod.mk.injEq] at H
    obtain ⟨rfl, rfl, rfl, rfl, rfl⟩ := H
    go_enter Try.func25, Try.ntmps25
    go_wp2_with (first | ((with_reducible refine gate_dst (N := 1) rfl ?_); refine Ka_ 1 #[.int .u64 a0_0, .int .u64 a0_1, .int .u64 a0_2, .int .u64 a0_3, .int .i64 a0_4, .bool false] 39 ?_; intro gb299 hg w62 hbox hb; have BK299 := Aside0.mk (hbox); have GW299 := Kw_ HB hg; have GE299 := GW299; replace HB := Ks_ HB hb; clear hb hbox hg) | ((with_reducible refine gate_dst (N := 2) rfl ?_); refine Ka_ 2 #[.int .u64 0, .int .u64 0, .int .u64 0, .int .u64 0, .int .i64 0] 30 ?_; intro gb300 hg w63 hbox hb; have BK300 := Aside0.mk (hbox); have GW300 := Kw_ HB hg; have GE300 := GW300; have NB299_300 := Kl_ BK299 hg; have NB300_299 := Kr_ BK299 hg; replace BK299 := Kb_ BK299 hb; replace HB := Ks_ HB hb; clear hb hbox hg; have hnb64 := NB299_300.out; have hnc64 := NB300_299.out; obtain ⟨hcz65_0, hcz65_1, hcz65_2, hcz65_3, hcz65_4, hcz65_5, hfz65_0, hfz65_1, hfz65_2, hfz65_3, hfz65_4, hfz65_5⟩ := Ke6_ BK299.out; obtain ⟨hcz66_0, hcz66_1, hcz66_2, hcz66_3, hcz66_4, hfz66_0, hfz66_1, hfz66_2, hfz66_3, hfz66_4⟩ := Ke5_ BK300.out))
    refine bodyPost_ret (results_cell_row rfl _ _ gb300 30 #[.int .u64 a0_0, .int .u64 a0_1, .int .u64 a0_2, .int .u64 a0_3, .int .i64 a0_4] (0, 0) _ rfl (by refine Kv_ ?_; refine blk_put (cs := #[.int .u64 a0_0, .int .u64 a0_1, .int .u64 a0_2, .int .u64 a0_3, .int .i64 0]) ?_ 4 _ rfl; refine Kv_ ?_; refine blk_put (cs := #[.int .u64 a0_0, .int .u64 a0_1, .int .u64 a0_2, .int .u64 0, .int .i64 0]) ?_ 3 _ rfl; refine Kv_ ?_; refine blk_put (cs := #[.int .u64 a0_0, .int .u64 a0_1, .int .u64 0, .int .u64 0, .int .i64 0]) ?_ 2 _ rfl; refine Kv_ ?_; refine blk_put (cs := #[.int .u64 a0_0, .int .u64 0, .int .u64 0, .int .u64 0, .int .i64 0]) ?_ 1 _ rfl; refine Kv_ ?_; refine blk_put (cs := #[.int .u64 0, .int .u64 0, .int .u64 0, .int .u64 0, .int .i64 0]) ?_ 0 _ rfl; exact Kq_ BK300) Try.underlying30 rfl (by kernel_rfl)) rfl ?_
    exact ⟨Kh_, K2a_ HB GE299 GE300⟩
  subst c2
  have H1 : (tenementlaw15_Mark_mark.l0 k 0 a0_0 a0_1 a0_2 a0_3 a0_4 true 0 0 0 0 (wrap64 (1 + (wrap64 (Int.tmod (IntKind.u64.wrap (a0_4)) 3))))) = some (r1, r2, r3, r4, r5) := by rw [if_pos rfl] at H; exact H
  clear H
  have H := H1
  clear H1
  have H' := Aside0.mk H
  clear H
  go_enter Try.func25, Try.ntmps25
  go_wp2_with (first | ((with_reducible refine gate_dst (N := 1) rfl ?_); refine Ka_ 1 #[.int .u64 a0_0, .int .u64 a0_1, .int .u64 a0_2, .int .u64 a0_3, .int .i64 a0_4, .bool true] 39 ?_; intro gb299 hg w3 hbox hb; have BK299 := Aside0.mk (hbox); have GW299 := Kw_ HB hg; have GE299 := GW299; replace HB := Ks_ HB hb; clear hb hbox hg) | ((with_reducible refine gate_dst (N := 2) rfl ?_); refine Ka_ 2 #[.int .u64 0, .int .u64 0, .int .u64 0, .int .u64 0, .int .i64 0] 30 ?_; intro gb300 hg w4 hbox hb; have BK300 := Aside0.mk (hbox); have GW300 := Kw_ HB hg; have GE300 := GW300; have NB299_300 := Kl_ BK299 hg; have NB300_299 := Kr_ BK299 hg; replace BK299 := Kb_ BK299 hb; replace HB := Ks_ HB hb; clear hb hbox hg; have hnb5 := NB299_300.out; have hnc5 := NB300_299.out; obtain ⟨hcz6_0, hcz6_1, hcz6_2, hcz6_3, hcz6_4, hcz6_5, hfz6_0, hfz6_1, hfz6_2, hfz6_3, hfz6_4, hfz6_5⟩ := Ke6_ BK299.out) | ((with_reducible refine gate_dst (N := 3) rfl ?_); refine Ka_ 3 #[.int .u64 0, .int .u64 0, .int .u64 0, .int .u64 0, .int .i64 0] 30 ?_; intro gb301 hg w7 hbox hb; have BK301 := Aside0.mk (hbox); have GW301 := Kw_ HB hg; have GE301 := GW301; have NB299_301 := Kl_ BK299 hg; have NB301_299 := Kr_ BK299 hg; have NB300_301 := Kl_ BK300 hg; have NB301_300 := Kr_ BK300 hg; replace BK299 := Kb_ BK299 hb; replace BK300 := Kb_ BK300 hb; replace HB := Ks_ HB hb; clear hb hbox hg; have hnb8 := NB301_299.out; have hnc8 := NB299_301.out; have hnb9 := NB301_300.out; have hnc9 := NB300_301.out; obtain ⟨hcz10_0, hcz10_1, hcz10_2, hcz10_3, hcz10_4, hfz10_0, hfz10_1, hfz10_2, hfz10_3, hfz10_4⟩ := Ke5_ BK301.out))
  go_loopg [4] k (fun kq v4 w' => ∃ (x4_1 : Int) (x302000_1 : Int) (x302001_1 : Int) (x302002_1 : Int) (x302003_1 : Int), v4 = .int .i64 x4_1 ∧ Aside0 (tenementlaw15_Mark_mark.l0 kq x4_1 a0_0 a0_1 a0_2 a0_3 a0_4 true x302000_1 x302001_1 x302002_1 x302003_1 (wrap64 (1 + (wrap64 (Int.tmod (IntKind.u64.wrap (a0_4)) 3)))) = some (r1, r2, r3, r4, r5)) ∧ Aside0 (kq ≤ k) ∧ Aside0 (w'.heap[gb299]? = some (.cells #[.int .u64 a0_0, .int .u64 a0_1, .int .u64 a0_2, .int .u64 a0_3, .int .i64 a0_4, .bool true] 39 (0, 0))) ∧ Aside0 (w'.heap[gb300]? = some (.cells #[.int .u64 0, .int .u64 0, .int .u64 0, .int .u64 0, .int .i64 0] 30 (0, 0))) ∧ Aside0 (w'.heap[gb301]? = some (.cells #[.int .u64 x302000_1, .int .u64 x302001_1, .int .u64 x302002_1, .int .u64 x302003_1, .int .i64 (wrap64 (1 + (wrap64 (Int.tmod (IntKind.u64.wrap (a0_4)) 3))))] 30 (0, 0))) ∧ Aside0 (Below w.heap.size w w'))
  case atStart => exact ⟨(0), (0), (0), (0), (0), (by first | rfl | (simp; done) | (simp [*]; done)), H', ⟨Nat.le_refl _⟩, ⟨by exact K1b_ BK299 NB299_301⟩, ⟨by exact K1b_ BK300 NB300_301⟩, ⟨by refine Kv_ ?_; refine blk_put (cs := #[.int .u64 0, .int .u64 0, .int .u64 0, .int .u64 0, .int .i64 0]) ?_ 4 _ rfl; refine Kv_ ?_; refine blk_put (cs := #[.int .u64 0, .int .u64 0, .int .u64 0, .int .u64 0, .int .i64 0]) ?_ 3 _ rfl; refine Kv_ ?_; refine blk_put (cs := #[.int .u64 0, .int .u64 0, .int .u64 0, .int .u64 0, .int .i64 0]) ?_ 2 _ rfl; refine Kv_ ?_; refine blk_put (cs := #[.int .u64 0, .int .u64 0, .int .u64 0, .int .u64 0, .int .i64 0]) ?_ 1 _ rfl; refine Kv_ ?_; refine blk_put (cs := #[.int .u64 0, .int .u64 0, .int .u64 0, .int .u64 0, .int .i64 0]) ?_ 0 _ rfl; exact Kq_ BK301⟩, ⟨K3a_ HB GE299 GE300 GE301⟩⟩
  case round =>
    clear H'
    try clear c2
    try clear p2
    try clear c5
    try clear p6
    try clear c8
    try clear c9
    try clear hcz10_0
    try clear hcz10_1
    try clear hcz10_2
    try clear hcz10_3
    try clear hcz10_4
    try clear hcz6_0
    try clear hcz6_1
    try clear hcz6_2
    try clear hcz6_3
    try clear hcz6_4
    try clear hcz6_5
    try clear hfz10_0
    try clear hfz10_1
    try clear hfz10_2
    try clear hfz10_3
    try clear hfz10_4
    try clear hfz6_0
    try clear hfz6_1
    try clear hfz6_2
    try clear hfz6_3
    try clear hfz6_4
    try clear hfz6_5
    obtain ⟨x4_1, x302000_1, x302001_1, x302002_1, x302003_1, rfl, HA, HK1, BK299, BK300, BK301, HB⟩ := hrel
    cases gk with
    | zero => exact absurd HA.out (by simp [tenementlaw15_Mark_mark.l0])
    | succ k1 =>
      have H := HA.out
      clear HA
      simp only [tenementlaw15_Mark_mark.l0] at H
      by_cases c11 : x4_1 < 3
      · rw [if_pos c11] at H
        have c11b0 : decide (x4_1 < 3) = true := decide_eq_true c11
        clear c11
        by_cases c12 : x4_1 = 0
        · subst c12
          have H1 : (tenementlaw15_Mark_mark.l0 k1 1 a0_0 a0_1 a0_2 a0_3 a0_4 true (Int.tmod a0_0 4) x302001_1 x302002_1 x302003_1 (wrap64 (1 + (wrap64 (Int.tmod (IntKind.u64.wrap (a0_4)) 3))))) = some (r1, r2, r3, r4, r5) := by rw [if_pos rfl] at H; (try simp only [show wrap64 ((0 : Int) + 1) = 1 from by first | rfl | decide | (unfold wrap64; omega), show wrap64 ((0 : Int) - 1) = -1 from by first | rfl | decide | (unfold wrap64; omega)] at H); exact H
          clear H
          have H := H1
          clear H1
          have H' := Aside0.mk H
          clear H
          have hnb13 := NB299_300.out
          have hnc13 := NB300_299.out
          have hnb14 := NB299_301.out
          have hnc14 := NB301_299.out
          obtain ⟨hcz15_0, hcz15_1, hcz15_2, hcz15_3, hcz15_4, hcz15_5, hfz15_0, hfz15_1, hfz15_2, hfz15_3, hfz15_4, hfz15_5⟩ := Ke6_ BK299.out
          have hnb16 := NB301_300.out
          have hnc16 := NB300_301.out
          obtain ⟨hcz17_0, hcz17_1, hcz17_2, hcz17_3, hcz17_4, hfz17_0, hfz17_1, hfz17_2, hfz17_3, hfz17_4⟩ := Ke5_ BK301.out
          go_wp2
          go_roundg k1
          case measure => have := HK1.out; omega
          case rel => exact ⟨(1), (Int.tmod a0_0 4), (x302001_1), (x302002_1), (x302003_1), (by first | rfl | (simp; done) | (simp [*]; done)), H', ⟨by have := HK1.out; omega⟩, ⟨by exact K1b_ BK299 NB299_301⟩, ⟨by exact K1b_ BK300 NB300_301⟩, ⟨by refine Kv_ ?_; refine blk_put (cs := #[.int .u64 x302000_1, .int .u64 x302001_1, .int .u64 x302002_1, .int .u64 x302003_1, .int .i64 (wrap64 (1 + (wrap64 (Int.tmod (IntKind.u64.wrap (a0_4)) 3))))]) ?_ 0 _ rfl; exact Kq_ BK301⟩, ⟨K3a_ HB GE299 GE300 GE301⟩⟩
        rw [if_neg c12] at H
        by_cases c18 : x4_1 = 1
        · subst c18
          have H1 : (tenementlaw15_Mark_mark.l0 k1 2 a0_0 a0_1 a0_2 a0_3 a0_4 true x302000_1 (Int.tmod a0_1 4) x302002_1 x302003_1 (wrap64 (1 + (wrap64 (Int.tmod (IntKind.u64.wrap (a0_4)) 3))))) = some (r1, r2, r3, r4, r5) := by rw [if_pos rfl] at H; (try simp only [show wrap64 ((1 : Int) + 1) = 2 from by first | rfl | decide | (unfold wrap64; omega), show wrap64 ((1 : Int) - 1) = 0 from by first | rfl | decide | (unfold wrap64; omega)] at H); exact H
          clear H
          have H := H1
          clear H1
          have H' := Aside0.mk H
          clear H
          have hnb19 := NB299_300.out
          have hnc19 := NB300_299.out
          have hnb20 := NB299_301.out
          have hnc20 := NB301_299.out
          obtain ⟨hcz21_0, hcz21_1, hcz21_2, hcz21_3, hcz21_4, hcz21_5, hfz21_0, hfz21_1, hfz21_2, hfz21_3, hfz21_4, hfz21_5⟩ := Ke6_ BK299.out
          have hnb22 := NB301_300.out
          have hnc22 := NB300_301.out
          obtain ⟨hcz23_0, hcz23_1, hcz23_2, hcz23_3, hcz23_4, hfz23_0, hfz23_1, hfz23_2, hfz23_3, hfz23_4⟩ := Ke5_ BK301.out
          go_wp2
          go_roundg k1
          case measure => have := HK1.out; omega
          case rel => exact ⟨(2), (x302000_1), (Int.tmod a0_1 4), (x302002_1), (x302003_1), (by first | rfl | (simp; done) | (simp [*]; done)), H', ⟨by have := HK1.out; omega⟩, ⟨by exact K1b_ BK299 NB299_301⟩, ⟨by exact K1b_ BK300 NB300_301⟩, ⟨by refine Kv_ ?_; refine blk_put (cs := #[.int .u64 x302000_1, .int .u64 x302001_1, .int .u64 x302002_1, .int .u64 x302003_1, .int .i64 (wrap64 (1 + (wrap64 (Int.tmod (IntKind.u64.wrap (a0_4)) 3))))]) ?_ 1 _ rfl; exact Kq_ BK301⟩, ⟨K3a_ HB GE299 GE300 GE301⟩⟩
        rw [if_neg c18] at H
        by_cases c24 : x4_1 = 2
        rotate_left
        · rw [if_neg c24] at H
          exact absurd H (by simp)
        subst c24
        have H1 : (tenementlaw15_Mark_mark.l0 k1 3 a0_0 a0_1 a0_2 a0_3 a0_4 true x302000_1 x302001_1 (Int.tmod a0_2 4) x302003_1 (wrap64 (1 + (wrap64 (Int.tmod (IntKind.u64.wrap (a0_4)) 3))))) = some (r1, r2, r3, r4, r5) := by rw [if_pos rfl] at H; (try simp only [show wrap64 ((2 : Int) + 1) = 3 from by first | rfl | decide | (unfold wrap64; omega), show wrap64 ((2 : Int) - 1) = 1 from by first | rfl | decide | (unfold wrap64; omega)] at H); exact H
        clear H
        have H := H1
        clear H1
        have H' := Aside0.mk H
        clear H
        have hnb25 := NB299_300.out
        have hnc25 := NB300_299.out
        have hnb26 := NB299_301.out
        have hnc26 := NB301_299.out
        obtain ⟨hcz27_0, hcz27_1, hcz27_2, hcz27_3, hcz27_4, hcz27_5, hfz27_0, hfz27_1, hfz27_2, hfz27_3, hfz27_4, hfz27_5⟩ := Ke6_ BK299.out
        have hnb28 := NB301_300.out
        have hnc28 := NB300_301.out
        obtain ⟨hcz29_0, hcz29_1, hcz29_2, hcz29_3, hcz29_4, hfz29_0, hfz29_1, hfz29_2, hfz29_3, hfz29_4⟩ := Ke5_ BK301.out
        go_wp2
        go_roundg k1
        case measure => have := HK1.out; omega
        case rel => exact ⟨(3), (x302000_1), (x302001_1), (Int.tmod a0_2 4), (x302003_1), (by first | rfl | (simp; done) | (simp [*]; done)), H', ⟨by have := HK1.out; omega⟩, ⟨by exact K1b_ BK299 NB299_301⟩, ⟨by exact K1b_ BK300 NB300_301⟩, ⟨by refine Kv_ ?_; refine blk_put (cs := #[.int .u64 x302000_1, .int .u64 x302001_1, .int .u64 x302002_1, .int .u64 x302003_1, .int .i64 (wrap64 (1 + (wrap64 (Int.tmod (IntKind.u64.wrap (a0_4)) 3))))]) ?_ 2 _ rfl; exact Kq_ BK301⟩, ⟨K3a_ HB GE299 GE300 GE301⟩⟩
      rw [if_neg c11] at H
      have c11b0 : decide (x4_1 < 3) = false := decide_eq_false c11
      clear c11
      by_cases c30 : (wrap64 (1 + (wrap64 (Int.tmod (IntKind.u64.wrap (a0_4)) 3)))) = 1
      · generalize (wrap64 (1 + (wrap64 (Int.tmod (IntKind.u64.wrap (a0_4)) 3)))) = xg_ at *
        subst c30
        have H1 : (some (IntKind.u64.wrap (1 + x302000_1), x302001_1, x302002_1, x302003_1, 1)) = some (r1, r2, r3, r4, r5) := by rw [if_pos rfl] at H; (try simp only [show wrap64 ((1 : Int) + 1) = 2 from by first | rfl | decide | (unfold wrap64; omega), show wrap64 ((1 : Int) - 1) = 0 from by first | rfl | decide | (unfold wrap64; omega)] at H); exact H
        clear H
        have H := H1
        clear H1
        simp only [Option.some.injEq, Prod.mk.injEq] at H
        obtain ⟨rfl, rfl, rfl, rfl, rfl⟩ := H
        try go_wp2
        replace BK299 := Kd_ BK299
        replace BK300 := Kd_ BK300
        replace BK301 := Kd_ BK301
        replace HB := Aside0.mk (below_drew1 HB.out)
        refine start_ (n := 13) (S := fun w' => w'.cell? ⟨gb301, 0, none⟩ = some (.int .u64 x302000_1) ∧ w'.cell? ⟨gb301, 1, none⟩ = some (.int .u64 x302001_1) ∧ w'.cell? ⟨gb301, 2, none⟩ = some (.int .u64 x302002_1) ∧ w'.cell? ⟨gb301, 3, none⟩ = some (.int .u64 x302003_1) ∧ w'.cell? ⟨gb301, 4, none⟩ = some (.int .i64 1)) (ds := [12]) #[false, false, false, false, false, false, false, false, false, false, false, false, false] (by kernel_rfl) rfl rfl (Kc5_ BK301.out) (fun hHeld => ?_); refine with_tabW tenementlaw15_Mark_mark.tab8 tenementlaw15_Mark_mark.bits8 (fun HT_ HW_ => ?_)
        generalize wr.drew = w31 at BK299 BK300 BK301 HB hHeld ⊢
        refine Kp_ 0 31 #[true, false, false, false, false, false, false, false, false, false, false, false, false] (any_of HT_.out (by kernel_rfl)) ?_
        refine Kp_ 3 34 #[true, false, false, true, false, false, false, false, false, false, false, false, false] (any_of HT_.out (by kernel_rfl)) ?_
        refine Kp_ 6 37 #[true, false, false, true, false, false, true, false, false, false, false, false, false] (any_of HT_.out (by kernel_rfl)) ?_
        refine Kp_ 10 41 #[true, false, false, true, false, false, true, false, false, false, true, false, false] (any_of HT_.out (by kernel_rfl)) ?_
        refine Ko_ 1 32 #[true, true, false, true, false, false, true, false, false, false, true, false, false] (take_ofW HT_.out HW_.out (by kernel_rfl)) hHeld ?_
        refine Kp_ 2 33 #[true, true, true, true, false, false, true, false, false, false, true, false, false] (any_of HT_.out (by kernel_rfl)) ?_
        refine Ko_ 4 35 #[true, true, true, true, true, false, true, false, false, false, true, false, false] (take_ofW HT_.out HW_.out (by kernel_rfl)) hHeld ?_
        refine Kp_ 5 36 #[true, true, true, true, true, true, true, false, false, false, true, false, false] (any_of HT_.out (by kernel_rfl)) ?_
        refine Kp_ 7 38 #[true, true, true, true, true, true, true, true, false, false, true, false, false] (any_of HT_.out (by kernel_rfl)) ?_
        refine Ko_ 8 39 #[true, true, true, true, true, true, true, true, true, false, true, false, false] (take_ofW HT_.out HW_.out (by kernel_rfl)) hHeld ?_
        refine Kp_ 9 40 #[true, true, true, true, true, true, true, true, true, true, true, false, false] (any_of HT_.out (by kernel_rfl)) ?_
        refine Kp_ 11 42 #[true, true, true, true, true, true, true, true, true, true, true, true, false] (any_of HT_.out (by kernel_rfl)) ?_
        refine last_ (i := 12) (N := none) #[true, true, true, true, true, true, true, true, true, true, true, true, true] rfl rfl (one_of HT_.out (by kernel_rfl)) (by decide) (fun K hK => ?_)
        have hs32 : w31.cell? ⟨gb301, 0, none⟩ = some (.int .u64 x302000_1) := (blk_cell BK301.out 0).trans rfl
        have hfs32 := blk_frozen BK301.out 0
        have hns32_0 := NB299_301.out
        have hns32_1 := NB300_301.out
        have hms32_0 := NB301_299.out
        have hms32_1 := NB301_300.out
        refine skip_ (w1 := ?_) (by rfl) rfl ?_ ?_
        rotate_left
        · go_simp
          rfl
        refine hK.out _ _ ?_
        clear hK K
        refine done_ (done_of HT_.out (by kernel_rfl)) ?_
        have hnb33 := NB301_299.out
        have hnc33 := NB299_301.out
        have hnb34 := NB301_300.out
        have hnc34 := NB300_301.out
        obtain ⟨hcz35_0, hcz35_1, hcz35_2, hcz35_3, hcz35_4, hfz35_0, hfz35_1, hfz35_2, hfz35_3, hfz35_4⟩ := Ke5_ BK301.out
        have hnb36 := NB300_299.out
        have hnc36 := NB299_300.out
        obtain ⟨hcz37_0, hcz37_1, hcz37_2, hcz37_3, hcz37_4, hfz37_0, hfz37_1, hfz37_2, hfz37_3, hfz37_4⟩ := Ke5_ BK300.out
        try go_wp2
        refine bodyPost_ret (results_cell_row rfl _ _ gb300 30 #[.int .u64 (IntKind.u64.wrap (1 + x302000_1)), .int .u64 x302001_1, .int .u64 x302002_1, .int .u64 x302003_1, .int .i64 1] (0, 0) _ rfl (by refine Kv_ ?_; refine blk_put (cs := #[.int .u64 (IntKind.u64.wrap (1 + x302000_1)), .int .u64 x302001_1, .int .u64 x302002_1, .int .u64 x302003_1, .int .i64 0]) ?_ 4 _ rfl; refine Kv_ ?_; refine blk_put (cs := #[.int .u64 (IntKind.u64.wrap (1 + x302000_1)), .int .u64 x302001_1, .int .u64 x302002_1, .int .u64 0, .int .i64 0]) ?_ 3 _ rfl; refine Kv_ ?_; refine blk_put (cs := #[.int .u64 (IntKind.u64.wrap (1 + x302000_1)), .int .u64 x302001_1, .int .u64 0, .int .u64 0, .int .i64 0]) ?_ 2 _ rfl; refine Kv_ ?_; refine blk_put (cs := #[.int .u64 (IntKind.u64.wrap (1 + x302000_1)), .int .u64 0, .int .u64 0, .int .u64 0, .int .i64 0]) ?_ 1 _ rfl; refine Kv_ ?_; refine blk_put (cs := #[.int .u64 0, .int .u64 0, .int .u64 0, .int .u64 0, .int .i64 0]) ?_ 0 _ rfl; exact K1b_ BK300 NB300_301) Try.underlying30 rfl (by kernel_rfl)) rfl ?_
        exact ⟨Kh_, K3a_ HB GE299 GE300 GE301⟩
      rw [if_neg c30] at H
      by_cases c38 : (wrap64 (1 + (wrap64 (Int.tmod (IntKind.u64.wrap (a0_4)) 3)))) = 2
      · generalize (wrap64 (1 + (wrap64 (Int.tmod (IntKind.u64.wrap (a0_4)) 3)))) = xg_ at *
        subst c38
        have H1 : (some (x302000_1, IntKind.u64.wrap (1 + x302001_1), x302002_1, x302003_1, 2)) = some (r1, r2, r3, r4, r5) := by rw [if_pos rfl] at H; (try simp only [show wrap64 ((2 : Int) + 1) = 3 from by first | rfl | decide | (unfold wrap64; omega), show wrap64 ((2 : Int) - 1) = 1 from by first | rfl | decide | (unfold wrap64; omega)] at H); exact H
        clear H
        have H := H1
        clear H1
        simp only [Option.some.injEq, Prod.mk.injEq] at H
        obtain ⟨rfl, rfl, rfl, rfl, rfl⟩ := H
        try go_wp2
        replace BK299 := Kd_ BK299
        replace BK300 := Kd_ BK300
        replace BK301 := Kd_ BK301
        replace HB := Aside0.mk (below_drew1 HB.out)
        refine start_ (n := 13) (S := fun w' => w'.cell? ⟨gb301, 0, none⟩ = some (.int .u64 x302000_1) ∧ w'.cell? ⟨gb301, 1, none⟩ = some (.int .u64 x302001_1) ∧ w'.cell? ⟨gb301, 2, none⟩ = some (.int .u64 x302002_1) ∧ w'.cell? ⟨gb301, 3, none⟩ = some (.int .u64 x302003_1) ∧ w'.cell? ⟨gb301, 4, none⟩ = some (.int .i64 2)) (ds := [12]) #[false, false, false, false, false, false, false, false, false, false, false, false, false] (by kernel_rfl) rfl rfl (Kc5_ BK301.out) (fun hHeld => ?_); refine with_tabW tenementlaw15_Mark_mark.tab8 tenementlaw15_Mark_mark.bits8 (fun HT_ HW_ => ?_)
        generalize wr.drew = w39 at BK299 BK300 BK301 HB hHeld ⊢
        refine Kp_ 0 31 #[true, false, false, false, false, false, false, false, false, false, false, false, false] (any_of HT_.out (by kernel_rfl)) ?_
        refine Kp_ 3 34 #[true, false, false, true, false, false, false, false, false, false, false, false, false] (any_of HT_.out (by kernel_rfl)) ?_
        refine Kp_ 6 37 #[true, false, false, true, false, false, true, false, false, false, false, false, false] (any_of HT_.out (by kernel_rfl)) ?_
        refine Kp_ 10 41 #[true, false, false, true, false, false, true, false, false, false, true, false, false] (any_of HT_.out (by kernel_rfl)) ?_
        refine Ko_ 1 32 #[true, true, false, true, false, false, true, false, false, false, true, false, false] (take_ofW HT_.out HW_.out (by kernel_rfl)) hHeld ?_
        refine Kp_ 2 33 #[true, true, true, true, false, false, true, false, false, false, true, false, false] (any_of HT_.out (by kernel_rfl)) ?_
        refine Ko_ 4 35 #[true, true, true, true, true, false, true, false, false, false, true, false, false] (take_ofW HT_.out HW_.out (by kernel_rfl)) hHeld ?_
        refine Kp_ 5 36 #[true, true, true, true, true, true, true, false, false, false, true, false, false] (any_of HT_.out (by kernel_rfl)) ?_
        refine Kp_ 7 38 #[true, true, true, true, true, true, true, true, false, false, true, false, false] (any_of HT_.out (by kernel_rfl)) ?_
        refine Ko_ 8 39 #[true, true, true, true, true, true, true, true, true, false, true, false, false] (take_ofW HT_.out HW_.out (by kernel_rfl)) hHeld ?_
        refine Kp_ 9 40 #[true, true, true, true, true, true, true, true, true, true, true, false, false] (any_of HT_.out (by kernel_rfl)) ?_
        refine Kp_ 11 42 #[true, true, true, true, true, true, true, true, true, true, true, true, false] (any_of HT_.out (by kernel_rfl)) ?_
        refine last_ (i := 12) (N := none) #[true, true, true, true, true, true, true, true, true, true, true, true, true] rfl rfl (one_of HT_.out (by kernel_rfl)) (by decide) (fun K hK => ?_)
        have hs40 : w39.cell? ⟨gb301, 1, none⟩ = some (.int .u64 x302001_1) := (blk_cell BK301.out 1).trans rfl
        have hfs40 := blk_frozen BK301.out 1
        have hns40_0 := NB299_301.out
        have hns40_1 := NB300_301.out
        have hms40_0 := NB301_299.out
        have hms40_1 := NB301_300.out
        refine skip_ (w1 := ?_) (by rfl) rfl ?_ ?_
        rotate_left
        · go_simp
          rfl
        refine hK.out _ _ ?_
        clear hK K
        refine done_ (done_of HT_.out (by kernel_rfl)) ?_
        have hnb41 := NB301_299.out
        have hnc41 := NB299_301.out
        have hnb42 := NB301_300.out
        have hnc42 := NB300_301.out
        obtain ⟨hcz43_0, hcz43_1, hcz43_2, hcz43_3, hcz43_4, hfz43_0, hfz43_1, hfz43_2, hfz43_3, hfz43_4⟩ := Ke5_ BK301.out
        have hnb44 := NB300_299.out
        have hnc44 := NB299_300.out
        obtain ⟨hcz45_0, hcz45_1, hcz45_2, hcz45_3, hcz45_4, hfz45_0, hfz45_1, hfz45_2, hfz45_3, hfz45_4⟩ := Ke5_ BK300.out
        try go_wp2
        refine bodyPost_ret (results_cell_row rfl _ _ gb300 30 #[.int .u64 x302000_1, .int .u64 (IntKind.u64.wrap (1 + x302001_1)), .int .u64 x302002_1, .int .u64 x302003_1, .int .i64 2] (0, 0) _ rfl (by refine Kv_ ?_; refine blk_put (cs := #[.int .u64 x302000_1, .int .u64 (IntKind.u64.wrap (1 + x302001_1)), .int .u64 x302002_1, .int .u64 x302003_1, .int .i64 0]) ?_ 4 _ rfl; refine Kv_ ?_; refine blk_put (cs := #[.int .u64 x302000_1, .int .u64 (IntKind.u64.wrap (1 + x302001_1)), .int .u64 x302002_1, .int .u64 0, .int .i64 0]) ?_ 3 _ rfl; refine Kv_ ?_; refine blk_put (cs := #[.int .u64 x302000_1, .int .u64 (IntKind.u64.wrap (1 + x302001_1)), .int .u64 0, .int .u64 0, .int .i64 0]) ?_ 2 _ rfl; refine Kv_ ?_; refine blk_put (cs := #[.int .u64 x302000_1, .int .u64 0, .int .u64 0, .int .u64 0, .int .i64 0]) ?_ 1 _ rfl; refine Kv_ ?_; refine blk_put (cs := #[.int .u64 0, .int .u64 0, .int .u64 0, .int .u64 0, .int .i64 0]) ?_ 0 _ rfl; exact K1b_ BK300 NB300_301) Try.underlying30 rfl (by kernel_rfl)) rfl ?_
        exact ⟨Kh_, K3a_ HB GE299 GE300 GE301⟩
      rw [if_neg c38] at H
      by_cases c46 : (wrap64 (1 + (wrap64 (Int.tmod (IntKind.u64.wrap (a0_4)) 3)))) = 3
      · generalize (wrap64 (1 + (wrap64 (Int.tmod (IntKind.u64.wrap (a0_4)) 3)))) = xg_ at *
        subst c46
        have H1 : (some (x302000_1, x302001_1, IntKind.u64.wrap (1 + x302002_1), x302003_1, 3)) = some (r1, r2, r3, r4, r5) := by rw [if_pos rfl] at H; (try simp only [show wrap64 ((3 : Int) + 1) = 4 from by first | rfl | decide | (unfold wrap64; omega), show wrap64 ((3 : Int) - 1) = 2 from by first | rfl | decide | (unfold wrap64; omega)] at H); exact H
        clear H
        have H := H1
        clear H1
        simp only [Option.some.injEq, Prod.mk.injEq] at H
        obtain ⟨rfl, rfl, rfl, rfl, rfl⟩ := H
        try go_wp2
        replace BK299 := Kd_ BK299
        replace BK300 := Kd_ BK300
        replace BK301 := Kd_ BK301
        replace HB := Aside0.mk (below_drew1 HB.out)
        refine start_ (n := 13) (S := fun w' => w'.cell? ⟨gb301, 0, none⟩ = some (.int .u64 x302000_1) ∧ w'.cell? ⟨gb301, 1, none⟩ = some (.int .u64 x302001_1) ∧ w'.cell? ⟨gb301, 2, none⟩ = some (.int .u64 x302002_1) ∧ w'.cell? ⟨gb301, 3, none⟩ = some (.int .u64 x302003_1) ∧ w'.cell? ⟨gb301, 4, none⟩ = some (.int .i64 3)) (ds := [12]) #[false, false, false, false, false, false, false, false, false, false, false, false, false] (by kernel_rfl) rfl rfl (Kc5_ BK301.out) (fun hHeld => ?_); refine with_tabW tenementlaw15_Mark_mark.tab8 tenementlaw15_Mark_mark.bits8 (fun HT_ HW_ => ?_)
        generalize wr.drew = w47 at BK299 BK300 BK301 HB hHeld ⊢
        refine Kp_ 0 31 #[true, false, false, false, false, false, false, false, false, false, false, false, false] (any_of HT_.out (by kernel_rfl)) ?_
        refine Kp_ 3 34 #[true, false, false, true, false, false, false, false, false, false, false, false, false] (any_of HT_.out (by kernel_rfl)) ?_
        refine Kp_ 6 37 #[true, false, false, true, false, false, true, false, false, false, false, false, false] (any_of HT_.out (by kernel_rfl)) ?_
        refine Kp_ 10 41 #[true, false, false, true, false, false, true, false, false, false, true, false, false] (any_of HT_.out (by kernel_rfl)) ?_
        refine Ko_ 1 32 #[true, true, false, true, false, false, true, false, false, false, true, false, false] (take_ofW HT_.out HW_.out (by kernel_rfl)) hHeld ?_
        refine Kp_ 2 33 #[true, true, true, true, false, false, true, false, false, false, true, false, false] (any_of HT_.out (by kernel_rfl)) ?_
        refine Ko_ 4 35 #[true, true, true, true, true, false, true, false, false, false, true, false, false] (take_ofW HT_.out HW_.out (by kernel_rfl)) hHeld ?_
        refine Kp_ 5 36 #[true, true, true, true, true, true, true, false, false, false, true, false, false] (any_of HT_.out (by kernel_rfl)) ?_
        refine Kp_ 7 38 #[true, true, true, true, true, true, true, true, false, false, true, false, false] (any_of HT_.out (by kernel_rfl)) ?_
        refine Ko_ 8 39 #[true, true, true, true, true, true, true, true, true, false, true, false, false] (take_ofW HT_.out HW_.out (by kernel_rfl)) hHeld ?_
        refine Kp_ 9 40 #[true, true, true, true, true, true, true, true, true, true, true, false, false] (any_of HT_.out (by kernel_rfl)) ?_
        refine Kp_ 11 42 #[true, true, true, true, true, true, true, true, true, true, true, true, false] (any_of HT_.out (by kernel_rfl)) ?_
        refine last_ (i := 12) (N := none) #[true, true, true, true, true, true, true, true, true, true, true, true, true] rfl rfl (one_of HT_.out (by kernel_rfl)) (by decide) (fun K hK => ?_)
        have hs48 : w47.cell? ⟨gb301, 2, none⟩ = some (.int .u64 x302002_1) := (blk_cell BK301.out 2).trans rfl
        have hfs48 := blk_frozen BK301.out 2
        have hns48_0 := NB299_301.out
        have hns48_1 := NB300_301.out
        have hms48_0 := NB301_299.out
        have hms48_1 := NB301_300.out
        refine skip_ (w1 := ?_) (by rfl) rfl ?_ ?_
        rotate_left
        · go_simp
          rfl
        refine hK.out _ _ ?_
        clear hK K
        refine done_ (done_of HT_.out (by kernel_rfl)) ?_
        have hnb49 := NB301_299.out
        have hnc49 := NB299_301.out
        have hnb50 := NB301_300.out
        have hnc50 := NB300_301.out
        obtain ⟨hcz51_0, hcz51_1, hcz51_2, hcz51_3, hcz51_4, hfz51_0, hfz51_1, hfz51_2, hfz51_3, hfz51_4⟩ := Ke5_ BK301.out
        have hnb52 := NB300_299.out
        have hnc52 := NB299_300.out
        obtain ⟨hcz53_0, hcz53_1, hcz53_2, hcz53_3, hcz53_4, hfz53_0, hfz53_1, hfz53_2, hfz53_3, hfz53_4⟩ := Ke5_ BK300.out
        try go_wp2
        refine bodyPost_ret (results_cell_row rfl _ _ gb300 30 #[.int .u64 x302000_1, .int .u64 x302001_1, .int .u64 (IntKind.u64.wrap (1 + x302002_1)), .int .u64 x302003_1, .int .i64 3] (0, 0) _ rfl (by refine Kv_ ?_; refine blk_put (cs := #[.int .u64 x302000_1, .int .u64 x302001_1, .int .u64 (IntKind.u64.wrap (1 + x302002_1)), .int .u64 x302003_1, .int .i64 0]) ?_ 4 _ rfl; refine Kv_ ?_; refine blk_put (cs := #[.int .u64 x302000_1, .int .u64 x302001_1, .int .u64 (IntKind.u64.wrap (1 + x302002_1)), .int .u64 0, .int .i64 0]) ?_ 3 _ rfl; refine Kv_ ?_; refine blk_put (cs := #[.int .u64 x302000_1, .int .u64 x302001_1, .int .u64 0, .int .u64 0, .int .i64 0]) ?_ 2 _ rfl; refine Kv_ ?_; refine blk_put (cs := #[.int .u64 x302000_1, .int .u64 0, .int .u64 0, .int .u64 0, .int .i64 0]) ?_ 1 _ rfl; refine Kv_ ?_; refine blk_put (cs := #[.int .u64 0, .int .u64 0, .int .u64 0, .int .u64 0, .int .i64 0]) ?_ 0 _ rfl; exact K1b_ BK300 NB300_301) Try.underlying30 rfl (by kernel_rfl)) rfl ?_
        exact ⟨Kh_, K3a_ HB GE299 GE300 GE301⟩
      rw [if_neg c46] at H
      by_cases c54 : (wrap64 (1 + (wrap64 (Int.tmod (IntKind.u64.wrap (a0_4)) 3)))) = 4
      rotate_left
      · rw [if_neg c54] at H
        exact absurd H (by simp)
      generalize (wrap64 (1 + (wrap64 (Int.tmod (IntKind.u64.wrap (a0_4)) 3)))) = xg_ at *
      subst c54
      have H1 : (some (x302000_1, x302001_1, x302002_1, IntKind.u64.wrap (1 + x302003_1), 4)) = some (r1, r2, r3, r4, r5) := by rw [if_pos rfl] at H; (try simp only [show wrap64 ((4 : Int) + 1) = 5 from by first | rfl | decide | (unfold wrap64; omega), show wrap64 ((4 : Int) - 1) = 3 from by first | rfl | decide | (unfold wrap64; omega)] at H); exact H
      clear H
      have H := H1
      clear H1
      simp only [Option.some.injEq, Prod.mk.injEq] at H
      obtain ⟨rfl, rfl, rfl, rfl, rfl⟩ := H
      try go_wp2
      replace BK299 := Kd_ BK299
      replace BK300 := Kd_ BK300
      replace BK301 := Kd_ BK301
      replace HB := Aside0.mk (below_drew1 HB.out)
      refine start_ (n := 13) (S := fun w' => w'.cell? ⟨gb301, 0, none⟩ = some (.int .u64 x302000_1) ∧ w'.cell? ⟨gb301, 1, none⟩ = some (.int .u64 x302001_1) ∧ w'.cell? ⟨gb301, 2, none⟩ = some (.int .u64 x302002_1) ∧ w'.cell? ⟨gb301, 3, none⟩ = some (.int .u64 x302003_1) ∧ w'.cell? ⟨gb301, 4, none⟩ = some (.int .i64 4)) (ds := [12]) #[false, false, false, false, false, false, false, false, false, false, false, false, false] (by kernel_rfl) rfl rfl (Kc5_ BK301.out) (fun hHeld => ?_); refine with_tabW tenementlaw15_Mark_mark.tab8 tenementlaw15_Mark_mark.bits8 (fun HT_ HW_ => ?_)
      generalize wr.drew = w55 at BK299 BK300 BK301 HB hHeld ⊢
      refine Kp_ 0 31 #[true, false, false, false, false, false, false, false, false, false, false, false, false] (any_of HT_.out (by kernel_rfl)) ?_
      refine Kp_ 3 34 #[true, false, false, true, false, false, false, false, false, false, false, false, false] (any_of HT_.out (by kernel_rfl)) ?_
      refine Kp_ 6 37 #[true, false, false, true, false, false, true, false, false, false, false, false, false] (any_of HT_.out (by kernel_rfl)) ?_
      refine Kp_ 10 41 #[true, false, false, true, false, false, true, false, false, false, true, false, false] (any_of HT_.out (by kernel_rfl)) ?_
      refine Ko_ 1 32 #[true, true, false, true, false, false, true, false, false, false, true, false, false] (take_ofW HT_.out HW_.out (by kernel_rfl)) hHeld ?_
      refine Kp_ 2 33 #[true, true, true, true, false, false, true, false, false, false, true, false, false] (any_of HT_.out (by kernel_rfl)) ?_
      refine Ko_ 4 35 #[true, true, true, true, true, false, true, false, false, false, true, false, false] (take_ofW HT_.out HW_.out (by kernel_rfl)) hHeld ?_
      refine Kp_ 5 36 #[true, true, true, true, true, true, true, false, false, false, true, false, false] (any_of HT_.out (by kernel_rfl)) ?_
      refine Kp_ 7 38 #[true, true, true, true, true, true, true, true, false, false, true, false, false] (any_of HT_.out (by kernel_rfl)) ?_
      refine Ko_ 8 39 #[true, true, true, true, true, true, true, true, true, false, true, false, false] (take_ofW HT_.out HW_.out (by kernel_rfl)) hHeld ?_
      refine Kp_ 9 40 #[true, true, true, true, true, true, true, true, true, true, true, false, false] (any_of HT_.out (by kernel_rfl)) ?_
      refine Kp_ 11 42 #[true, true, true, true, true, true, true, true, true, true, true, true, false] (any_of HT_.out (by kernel_rfl)) ?_
      refine last_ (i := 12) (N := none) #[true, true, true, true, true, true, true, true, true, true, true, true, true] rfl rfl (one_of HT_.out (by kernel_rfl)) (by decide) (fun K hK => ?_)
      have hs56 : w55.cell? ⟨gb301, 3, none⟩ = some (.int .u64 x302003_1) := (blk_cell BK301.out 3).trans rfl
      have hfs56 := blk_frozen BK301.out 3
      have hns56_0 := NB299_301.out
      have hns56_1 := NB300_301.out
      have hms56_0 := NB301_299.out
      have hms56_1 := NB301_300.out
      refine skip_ (w1 := ?_) (by rfl) rfl ?_ ?_
      rotate_left
      · go_simp
        rfl
      refine hK.out _ _ ?_
      clear hK K
      refine done_ (done_of HT_.out (by kernel_rfl)) ?_
      have hnb57 := NB301_299.out
      have hnc57 := NB299_301.out
      have hnb58 := NB301_300.out
      have hnc58 := NB300_301.out
      obtain ⟨hcz59_0, hcz59_1, hcz59_2, hcz59_3, hcz59_4, hfz59_0, hfz59_1, hfz59_2, hfz59_3, hfz59_4⟩ := Ke5_ BK301.out
      have hnb60 := NB300_299.out
      have hnc60 := NB299_300.out
      obtain ⟨hcz61_0, hcz61_1, hcz61_2, hcz61_3, hcz61_4, hfz61_0, hfz61_1, hfz61_2, hfz61_3, hfz61_4⟩ := Ke5_ BK300.out
      try go_wp2
      refine bodyPost_ret (results_cell_row rfl _ _ gb300 30 #[.int .u64 x302000_1, .int .u64 x302001_1, .int .u64 x302002_1, .int .u64 (IntKind.u64.wrap (1 + x302003_1)), .int .i64 4] (0, 0) _ rfl (by refine Kv_ ?_; refine blk_put (cs := #[.int .u64 x302000_1, .int .u64 x302001_1, .int .u64 x302002_1, .int .u64 (IntKind.u64.wrap (1 + x302003_1)), .int .i64 0]) ?_ 4 _ rfl; refine Kv_ ?_; refine blk_put (cs := #[.int .u64 x302000_1, .int .u64 x302001_1, .int .u64 x302002_1, .int .u64 0, .int .i64 0]) ?_ 3 _ rfl; refine Kv_ ?_; refine blk_put (cs := #[.int .u64 x302000_1, .int .u64 x302001_1, .int .u64 0, .int .u64 0, .int .i64 0]) ?_ 2 _ rfl; refine Kv_ ?_; refine blk_put (cs := #[.int .u64 x302000_1, .int .u64 0, .int .u64 0, .int .u64 0, .int .i64 0]) ?_ 1 _ rfl; refine Kv_ ?_; refine blk_put (cs := #[.int .u64 0, .int .u64 0, .int .u64 0, .int .u64 0, .int .i64 0]) ?_ 0 _ rfl; exact K1b_ BK300 NB300_301) Try.underlying30 rfl (by kernel_rfl)) rfl ?_
      exact ⟨Kh_, K3a_ HB GE299 GE300 GE301⟩
/-! ### tenementlaw15_Vector_vector: function 24 -/
def tenementlaw15_Vector_vector.l0 : Nat → Int → Int → Int → Int → Int → Bool → Option (Int × Int × Int × Int)
  | 0, _, _, _, _, _, _ => none
  | k + 1, x3, x347000, x347001, x347002, x347003, x347004 => if x3 < 4 then (if x3 = 0 then (tenementlaw15_Vector_vector.l0 k (wrap64 (x3 + 1)) (Int.tmod x347000 4) x347001 x347002 x347003 x347004) else (if x3 = 1 then (tenementlaw15_Vector_vector.l0 k (wrap64 (x3 + 1)) x347000 (Int.tmod x347001 4) x347002 x347003 x347004) else (if x3 = 2 then (tenementlaw15_Vector_vector.l0 k (wrap64 (x3 + 1)) x347000 x347001 (Int.tmod x347002 4) x347003 x347004) else (if x3 = 3 then (tenementlaw15_Vector_vector.l0 k (wrap64 (x3 + 1)) x347000 x347001 x347002 (Int.tmod x347003 4) x347004) else (none))))) else (some (x347000, x347001, x347002, x347003))
def tenementlaw15_Vector_vector.f (k : Nat) (a0_0 : Int) (a0_1 : Int) (a0_2 : Int) (a0_3 : Int) (a0_4 : Bool) : Option (Int × Int × Int × Int) := if a0_4 = true then (tenementlaw15_Vector_vector.l0 k 0 a0_0 a0_1 a0_2 a0_3 a0_4) else (some (a0_0, a0_1, a0_2, a0_3))
theorem tenementlaw15_Vector_vector.mono_l : ∀ k, (∀ y0 y1 y2 y3 y4 y5, LeO (tenementlaw15_Vector_vector.l0 k y0 y1 y2 y3 y4 y5) (tenementlaw15_Vector_vector.l0 (k + 1) y0 y1 y2 y3 y4 y5))
  | 0 => fun _ _ _ _ _ _ r h => by simp [tenementlaw15_Vector_vector.l0] at h
  | k + 1 => by
    have ih0 := tenementlaw15_Vector_vector.mono_l k
    · intro y0 y1 y2 y3 y4 y5
      unfold tenementlaw15_Vector_vector.l0
      repeat' first
      | (with_reducible exact ih0 _ _ _ _ _ _)
      | (with_reducible exact LeO.refl _)
      | (with_reducible exact LeO.none _)
      | (with_reducible refine LeO.ite ?_ ?_)
      | (with_reducible refine LeO.bind ?_ (fun _ => ?_))
      | exact ih0 _ _ _ _ _ _
      | exact LeO.none _
      | refine LeO.ite ?_ ?_
      | refine LeO.bind ?_ (fun _ => ?_)
theorem tenementlaw15_Vector_vector.mono : ∀ a0 a1 a2 a3 a4 k, LeO (tenementlaw15_Vector_vector.f k a0 a1 a2 a3 a4) (tenementlaw15_Vector_vector.f (k + 1) a0 a1 a2 a3 a4) := by
  intro a0 a1 a2 a3 a4 k
  have ih0 := tenementlaw15_Vector_vector.mono_l k
  unfold tenementlaw15_Vector_vector.f
  repeat' first
      | (with_reducible exact ih0 _ _ _ _ _ _)
      | (with_reducible exact LeO.refl _)
      | (with_reducible exact LeO.none _)
      | (with_reducible refine LeO.ite ?_ ?_)
      | (with_reducible refine LeO.bind ?_ (fun _ => ?_))
      | exact ih0 _ _ _ _ _ _
      | exact LeO.none _
      | refine LeO.ite ?_ ?_
      | refine LeO.bind ?_ (fun _ => ?_)
set_option maxHeartbeats 8000000 in
set_option maxRecDepth 100000 in
theorem tenementlaw15_Vector_vector.calls (k : Nat) (a0_0 : Int) (a0_1 : Int) (a0_2 : Int) (a0_3 : Int) (a0_4 : Bool) (r1 : Int) (r2 : Int) (r3 : Int) (r4 : Int) (w : World) (h : tenementlaw15_Vector_vector.f k a0_0 a0_1 a0_2 a0_3 a0_4 = some (r1, r2, r3, r4)) :
    Calls Try.prog 24 #[.agg #[.int .u64 a0_0, .int .u64 a0_1, .int .u64 a0_2, .int .u64 a0_3, .bool a0_4]] w fun e w' => e = .returned (.agg #[.int .u64 r1, .int .u64 r2, .int .u64 r3, .int .u64 r4]) ∧ Below w.heap.size w w' := by
  have hu63 := Try.underlying63
  have hu28 := Try.underlying28
  have HB := Aside0.mk (Below.refl w.heap.size w)
  have H : (if a0_4 = true then (tenementlaw15_Vector_vector.l0 k 0 a0_0 a0_1 a0_2 a0_3 a0_4) else (some (a0_0, a0_1, a0_2, a0_3))) = some (r1, r2, r3, r4) := h
  clear h
  by_cases c2 : a0_4 = true
  rotate_left
  · replace c2 := Bool.eq_false_iff.mpr c2
    subst c2
    have H1 : (some (a0_0, a0_1, a0_2, a0_3)) = some (r1, r2, r3, r4) := by rw [if_neg (show ¬ (false = true) by decide)] at H; exact H
    clear H
    have H := H1
    clear H1
    simp only [Option.some.injEq, Prod.mk.injEq] at H
    obtain ⟨rfl, rfl, rfl, rfl⟩ := H
    go_enter Try.func24, Try.ntmps24
    go_wp2_with (first | ((with_reducible refine gate_dst (N := 1) rfl ?_); refine Ka_ 1 #[.int .u64 a0_0, .int .u64 a0_1, .int .u64 a0_2, .int .u64 a0_3, .bool false] 63 ?_; intro gb346 hg w23 hbox hb; have BK346 := Aside0.mk (hbox); have GW346 := Kw_ HB hg; have GE346 := GW346; replace HB := Ks_ HB hb; clear hb hbox hg) | ((with_reducible refine gate_dst (N := 2) rfl ?_); refine Ka_ 2 #[.int .u64 0, .int .u64 0, .int .u64 0, .int .u64 0] 28 ?_; intro gb347 hg w24 hbox hb; have BK347 := Aside0.mk (hbox); have GW347 := Kw_ HB hg; have GE347 := GW347; have NB346_347 := Kl_ BK346 hg; have NB347_346 := Kr_ BK346 hg; replace BK346 := Kb_ BK346 hb; replace HB := Ks_ HB hb; clear hb hbox hg; have hnb25 := NB346_347.out; have hnc25 := NB347_346.out; obtain ⟨hcz26_0, hcz26_1, hcz26_2, hcz26_3, hcz26_4, hfz26_0, hfz26_1, hfz26_2, hfz26_3, hfz26_4⟩ := Ke5_ BK346.out; obtain ⟨hcz27_0, hcz27_1, hcz27_2, hcz27_3, hfz27_0, hfz27_1, hfz27_2, hfz27_3⟩ := Ke4_ BK347.out))
    refine bodyPost_ret (results_cell_row rfl _ _ gb347 28 #[.int .u64 a0_0, .int .u64 a0_1, .int .u64 a0_2, .int .u64 a0_3] (0, 0) _ rfl (by refine Kv_ ?_; refine blk_put (cs := #[.int .u64 a0_0, .int .u64 a0_1, .int .u64 a0_2, .int .u64 0]) ?_ 3 _ rfl; refine Kv_ ?_; refine blk_put (cs := #[.int .u64 a0_0, .int .u64 a0_1, .int .u64 0, .int .u64 0]) ?_ 2 _ rfl; refine Kv_ ?_; refine blk_put (cs := #[.int .u64 a0_0, .int .u64 0, .int .u64 0, .int .u64 0]) ?_ 1 _ rfl; refine Kv_ ?_; refine blk_put (cs := #[.int .u64 0, .int .u64 0, .int .u64 0, .int .u64 0]) ?_ 0 _ rfl; exact Kq_ BK347) Try.underlying28 rfl (by kernel_rfl)) rfl ?_
    exact ⟨Kh_, K2a_ HB GE346 GE347⟩
  subst c2
  have H1 : (tenementlaw15_Vector_vector.l0 k 0 a0_0 a0_1 a0_2 a0_3 true) = some (r1, r2, r3, r4) := by rw [if_pos rfl] at H; exact H
  clear H
  have H := H1
  clear H1
  have H' := Aside0.mk H
  clear H
  go_enter Try.func24, Try.ntmps24
  go_wp2_with (first | ((with_reducible refine gate_dst (N := 1) rfl ?_); refine Ka_ 1 #[.int .u64 a0_0, .int .u64 a0_1, .int .u64 a0_2, .int .u64 a0_3, .bool true] 63 ?_; intro gb346 hg w3 hbox hb; have BK346 := Aside0.mk (hbox); have GW346 := Kw_ HB hg; have GE346 := GW346; replace HB := Ks_ HB hb; clear hb hbox hg) | ((with_reducible refine gate_dst (N := 2) rfl ?_); refine Ka_ 2 #[.int .u64 0, .int .u64 0, .int .u64 0, .int .u64 0] 28 ?_; intro gb347 hg w4 hbox hb; have BK347 := Aside0.mk (hbox); have GW347 := Kw_ HB hg; have GE347 := GW347; have NB346_347 := Kl_ BK346 hg; have NB347_346 := Kr_ BK346 hg; replace BK346 := Kb_ BK346 hb; replace HB := Ks_ HB hb; clear hb hbox hg; have hnb5 := NB346_347.out; have hnc5 := NB347_346.out; obtain ⟨hcz6_0, hcz6_1, hcz6_2, hcz6_3, hcz6_4, hfz6_0, hfz6_1, hfz6_2, hfz6_3, hfz6_4⟩ := Ke5_ BK346.out))
  go_loopg [3] k (fun kq v3 w' => ∃ (x3_1 : Int) (x347000_1 : Int) (x347001_1 : Int) (x347002_1 : Int) (x347003_1 : Int), v3 = .int .i64 x3_1 ∧ Aside0 (tenementlaw15_Vector_vector.l0 kq x3_1 x347000_1 x347001_1 x347002_1 x347003_1 true = some (r1, r2, r3, r4)) ∧ Aside0 (kq ≤ k) ∧ Aside0 (w'.heap[gb346]? = some (.cells #[.int .u64 x347000_1, .int .u64 x347001_1, .int .u64 x347002_1, .int .u64 x347003_1, .bool true] 63 (0, 0))) ∧ Aside0 (w'.heap[gb347]? = some (.cells #[.int .u64 0, .int .u64 0, .int .u64 0, .int .u64 0] 28 (0, 0))) ∧ Aside0 (Below w.heap.size w w'))
  case atStart => exact ⟨(0), (a0_0), (a0_1), (a0_2), (a0_3), (by first | rfl | (simp; done) | (simp [*]; done)), H', ⟨Nat.le_refl _⟩, ⟨by exact Kq_ BK346⟩, ⟨by exact Kq_ BK347⟩, ⟨K2a_ HB GE346 GE347⟩⟩
  case round =>
    clear H'
    try clear c2
    try clear p2
    try clear c5
    try clear hcz6_0
    try clear hcz6_1
    try clear hcz6_2
    try clear hcz6_3
    try clear hcz6_4
    try clear hfz6_0
    try clear hfz6_1
    try clear hfz6_2
    try clear hfz6_3
    try clear hfz6_4
    obtain ⟨x3_1, x347000_1, x347001_1, x347002_1, x347003_1, rfl, HA, HK1, BK346, BK347, HB⟩ := hrel
    cases gk with
    | zero => exact absurd HA.out (by simp [tenementlaw15_Vector_vector.l0])
    | succ k1 =>
      have H := HA.out
      clear HA
      simp only [tenementlaw15_Vector_vector.l0] at H
      by_cases c7 : x3_1 < 4
      rotate_left
      · rw [if_neg c7] at H
        have c7b0 : decide (x3_1 < 4) = false := decide_eq_false c7
        clear c7
        simp only [Option.some.injEq, Prod.mk.injEq] at H
        obtain ⟨rfl, rfl, rfl, rfl⟩ := H
        have hnb20 := NB346_347.out
        have hnc20 := NB347_346.out
        obtain ⟨hcz21_0, hcz21_1, hcz21_2, hcz21_3, hcz21_4, hfz21_0, hfz21_1, hfz21_2, hfz21_3, hfz21_4⟩ := Ke5_ BK346.out
        obtain ⟨hcz22_0, hcz22_1, hcz22_2, hcz22_3, hfz22_0, hfz22_1, hfz22_2, hfz22_3⟩ := Ke4_ BK347.out
        go_wp2
        refine bodyPost_ret (results_cell_row rfl _ _ gb347 28 #[.int .u64 x347000_1, .int .u64 x347001_1, .int .u64 x347002_1, .int .u64 x347003_1] (0, 0) _ rfl (by refine Kv_ ?_; refine blk_put (cs := #[.int .u64 x347000_1, .int .u64 x347001_1, .int .u64 x347002_1, .int .u64 0]) ?_ 3 _ rfl; refine Kv_ ?_; refine blk_put (cs := #[.int .u64 x347000_1, .int .u64 x347001_1, .int .u64 0, .int .u64 0]) ?_ 2 _ rfl; refine Kv_ ?_; refine blk_put (cs := #[.int .u64 x347000_1, .int .u64 0, .int .u64 0, .int .u64 0]) ?_ 1 _ rfl; refine Kv_ ?_; refine blk_put (cs := #[.int .u64 0, .int .u64 0, .int .u64 0, .int .u64 0]) ?_ 0 _ rfl; exact Kq_ BK347) Try.underlying28 rfl (by kernel_rfl)) rfl ?_
        exact ⟨Kh_, K2a_ HB GE346 GE347⟩
      rw [if_pos c7] at H
      have c7b0 : decide (x3_1 < 4) = true := decide_eq_true c7
      clear c7
      by_cases c8 : x3_1 = 0
      · subst c8
        have H1 : (tenementlaw15_Vector_vector.l0 k1 1 (Int.tmod x347000_1 4) x347001_1 x347002_1 x347003_1 true) = some (r1, r2, r3, r4) := by rw [if_pos rfl] at H; (try simp only [show wrap64 ((0 : Int) + 1) = 1 from by first | rfl | decide | (unfold wrap64; omega), show wrap64 ((0 : Int) - 1) = -1 from by first | rfl | decide | (unfold wrap64; omega)] at H); exact H
        clear H
        have H := H1
        clear H1
        have H' := Aside0.mk H
        clear H
        have hnb9 := NB346_347.out
        have hnc9 := NB347_346.out
        obtain ⟨hcz10_0, hcz10_1, hcz10_2, hcz10_3, hcz10_4, hfz10_0, hfz10_1, hfz10_2, hfz10_3, hfz10_4⟩ := Ke5_ BK346.out
        go_wp2
        go_roundg k1
        case measure => have := HK1.out; omega
        case rel => exact ⟨(1), (Int.tmod x347000_1 4), (x347001_1), (x347002_1), (x347003_1), (by first | rfl | (simp; done) | (simp [*]; done)), H', ⟨by have := HK1.out; omega⟩, ⟨by refine Kv_ ?_; refine blk_put (cs := #[.int .u64 x347000_1, .int .u64 x347001_1, .int .u64 x347002_1, .int .u64 x347003_1, .bool true]) ?_ 0 _ rfl; exact Kq_ BK346⟩, ⟨by exact K1b_ BK347 NB347_346⟩, ⟨K2a_ HB GE346 GE347⟩⟩
      rw [if_neg c8] at H
      by_cases c11 : x3_1 = 1
      · subst c11
        have H1 : (tenementlaw15_Vector_vector.l0 k1 2 x347000_1 (Int.tmod x347001_1 4) x347002_1 x347003_1 true) = some (r1, r2, r3, r4) := by rw [if_pos rfl] at H; (try simp only [show wrap64 ((1 : Int) + 1) = 2 from by first | rfl | decide | (unfold wrap64; omega), show wrap64 ((1 : Int) - 1) = 0 from by first | rfl | decide | (unfold wrap64; omega)] at H); exact H
        clear H
        have H := H1
        clear H1
        have H' := Aside0.mk H
        clear H
        have hnb12 := NB346_347.out
        have hnc12 := NB347_346.out
        obtain ⟨hcz13_0, hcz13_1, hcz13_2, hcz13_3, hcz13_4, hfz13_0, hfz13_1, hfz13_2, hfz13_3, hfz13_4⟩ := Ke5_ BK346.out
        go_wp2
        go_roundg k1
        case measure => have := HK1.out; omega
        case rel => exact ⟨(2), (x347000_1), (Int.tmod x347001_1 4), (x347002_1), (x347003_1), (by first | rfl | (simp; done) | (simp [*]; done)), H', ⟨by have := HK1.out; omega⟩, ⟨by refine Kv_ ?_; refine blk_put (cs := #[.int .u64 x347000_1, .int .u64 x347001_1, .int .u64 x347002_1, .int .u64 x347003_1, .bool true]) ?_ 1 _ rfl; exact Kq_ BK346⟩, ⟨by exact K1b_ BK347 NB347_346⟩, ⟨K2a_ HB GE346 GE347⟩⟩
      rw [if_neg c11] at H
      by_cases c14 : x3_1 = 2
      · subst c14
        have H1 : (tenementlaw15_Vector_vector.l0 k1 3 x347000_1 x347001_1 (Int.tmod x347002_1 4) x347003_1 true) = some (r1, r2, r3, r4) := by rw [if_pos rfl] at H; (try simp only [show wrap64 ((2 : Int) + 1) = 3 from by first | rfl | decide | (unfold wrap64; omega), show wrap64 ((2 : Int) - 1) = 1 from by first | rfl | decide | (unfold wrap64; omega)] at H); exact H
        clear H
        have H := H1
        clear H1
        have H' := Aside0.mk H
        clear H
        have hnb15 := NB346_347.out
        have hnc15 := NB347_346.out
        obtain ⟨hcz16_0, hcz16_1, hcz16_2, hcz16_3, hcz16_4, hfz16_0, hfz16_1, hfz16_2, hfz16_3, hfz16_4⟩ := Ke5_ BK346.out
        go_wp2
        go_roundg k1
        case measure => have := HK1.out; omega
        case rel => exact ⟨(3), (x347000_1), (x347001_1), (Int.tmod x347002_1 4), (x347003_1), (by first | rfl | (simp; done) | (simp [*]; done)), H', ⟨by have := HK1.out; omega⟩, ⟨by refine Kv_ ?_; refine blk_put (cs := #[.int .u64 x347000_1, .int .u64 x347001_1, .int .u64 x347002_1, .int .u64 x347003_1, .bool true]) ?_ 2 _ rfl; exact Kq_ BK346⟩, ⟨by exact K1b_ BK347 NB347_346⟩, ⟨K2a_ HB GE346 GE347⟩⟩
      rw [if_neg c14] at H
      by_cases c17 : x3_1 = 3
      rotate_left
      · rw [if_neg c17] at H
        exact absurd H (by simp)
      subst c17
      have H1 : (tenementlaw15_Vector_vector.l0 k1 4 x347000_1 x347001_1 x347002_1 (Int.tmod x347003_1 4) true) = some (r1, r2, r3, r4) := by rw [if_pos rfl] at H; (try simp only [show wrap64 ((3 : Int) + 1) = 4 from by first | rfl | decide | (unfold wrap64; omega), show wrap64 ((3 : Int) - 1) = 2 from by first | rfl | decide | (unfold wrap64; omega)] at H); exact H
      clear H
      have H := H1
      clear H1
      have H' := Aside0.mk H
      clear H
      have hnb18 := NB346_347.out
      have hnc18 := NB347_346.out
      obtain ⟨hcz19_0, hcz19_1, hcz19_2, hcz19_3, hcz19_4, hfz19_0, hfz19_1, hfz19_2, hfz19_3, hfz19_4⟩ := Ke5_ BK346.out
      go_wp2
      go_roundg k1
      case measure => have := HK1.out; omega
      case rel => exact ⟨(4), (x347000_1), (x347001_1), (x347002_1), (Int.tmod x347003_1 4), (by first | rfl | (simp; done) | (simp [*]; done)), H', ⟨by have := HK1.out; omega⟩, ⟨by refine Kv_ ?_; refine blk_put (cs := #[.int .u64 x347000_1, .int .u64 x347001_1, .int .u64 x347002_1, .int .u64 x347003_1, .bool true]) ?_ 3 _ rfl; exact Kq_ BK346⟩, ⟨by exact K1b_ BK347 NB347_346⟩, ⟨K2a_ HB GE346 GE347⟩⟩
end Go.Proofs.Ytoagfdpgnfinhaa.Q
