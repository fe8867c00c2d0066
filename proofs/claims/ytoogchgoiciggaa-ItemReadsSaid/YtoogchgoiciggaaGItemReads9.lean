import Derived.Test.YtoogchgoiciggaaGItemReads2
import Derived.Test.YtoogchgoiciggaaGItemReads7
import Derived.Test.YtoogchgoiciggaaGItemReads1
import Derived.Deep.Slices
import Derived.OpenShut
import Derived.SizedLaws
import Derived.ChangeArms
import Derived.WideShapes
import Derived.ChangeShapes
import Derived.KernelRfl
import Derived.Laws.BitsAllLaws
import Derived.Test.YtoogchgoiciggaaGItemReads0
import Derived.Test.YtoogchgoiciggaaGItemReads5
import Derived.Test.YtoogchgoiciggaaGItemReads3
import Derived.Test.YtoogchgoiciggaaGItemReads4
import Derived.Test.YtoogchgoiciggaaGItemReads6
import Derived.Test.YtoogchgoiciggaaGItemReads8
namespace Go.Proofs.Ytoogchgoiciggaa.Q
open Go.RowKit Go.Proofs.YtoogchgoiciggaaW.PrintWords Go.Proofs.YtoogchgoiciggaaW.PrintLast Go.Proofs.YtoogchgoiciggaaW.PrintMore
attribute [local go_sem] max2_int min2_int max_two min_two max_three min_three max_four min_four   -- for this text's walks alone
set_option linter.unusedVariables false
set_option linter.unusedSimpArgs false
def tenementref02_Reader_Text.f (k : Nat) (a0_0 : ByteArray) (a0_1 : Bool) (a1 : Int) : Option (ByteArray × ByteArray × Bool) := (tenementref02_Reader_Vary.f k a0_0 a0_1).bind fun bt526 => (if bt526.2.2 = true then (some ((⟨#[]⟩ : ByteArray), (⟨#[]⟩ : ByteArray), true)) else (if a1 < 0 then (some ((⟨#[]⟩ : ByteArray), (⟨#[]⟩ : ByteArray), true)) else (if bt526.1 > (IntKind.u64.wrap (a1)) then (some ((⟨#[]⟩ : ByteArray), (⟨#[]⟩ : ByteArray), true)) else (if bt526.2.1.size ≤ 9223372036854775807 then (if bt526.1 > (bt526.2.1.size : Int) then (some ((⟨#[]⟩ : ByteArray), (⟨#[]⟩ : ByteArray), true)) else (if 0 ≤ bt526.1 then (if bt526.1 ≤ (bt526.2.1.size : Int) then (some (bt526.2.1.extract 0 (bt526.1 : Int).toNat, bt526.2.1.extract (bt526.1 : Int).toNat bt526.2.1.size, false)) else (none)) else (none))) else (none)))))
def tenementref02_Reader_Text.T4 : Bool × List (List Nat × List Nat) := (true, [([], []), ([0], [0]), ([], []), ([1, 2], [1, 2]), ([], []), ([4], [4]), ([], []), ([5, 6], [5, 6]), ([7], [7]), ([3, 0, 1, 2, 3], [3]), ([8, 9, 0, 1, 2, 3, 4, 5, 6, 7, 8, 9], [8])])
def tenementref02_Reader_Text.B4 : List Nat := [0, 1, 0, 7, 0, 16, 0, 112, 240, 15, 1023]
theorem tenementref02_Reader_Text.tab4 : rtab .any (opsOf Try.f58 4) = tenementref02_Reader_Text.T4 := by kernel_rfl
theorem tenementref02_Reader_Text.bits4 : waitsOk tenementref02_Reader_Text.T4.2 tenementref02_Reader_Text.B4 = true := by kernel_rfl
set_option maxHeartbeats 8000000 in
set_option maxRecDepth 100000 in
theorem tenementref02_Reader_Text.calls (k : Nat) (a0_0 : ByteArray) (a0_1 : Bool) (a1 : Int) (r1 : ByteArray) (r2 : ByteArray) (r3 : Bool) (w : World) (h : tenementref02_Reader_Text.f k a0_0 a0_1 a1 = some (r1, r2, r3)) :
  Calls Try.prog 58 #[.agg #[.string a0_0, .bool a0_1], .int .i64 a1] w fun e w' => e = .returned (.tuple #[.string r1, .agg #[.string r2, .bool r3]]) ∧ Below w.heap.size w w' := by
 have hu104 := Try.underlying104
 have HB := Aside0.mk (Below.refl w.heap.size w)
 have H : ((tenementref02_Reader_Vary.f k a0_0 a0_1).bind fun bt526 => (if bt526.2.2 = true then (some ((⟨#[]⟩ : ByteArray), (⟨#[]⟩ : ByteArray), true)) else (if a1 < 0 then (some ((⟨#[]⟩ : ByteArray), (⟨#[]⟩ : ByteArray), true)) else (if bt526.1 > (IntKind.u64.wrap (a1)) then (some ((⟨#[]⟩ : ByteArray), (⟨#[]⟩ : ByteArray), true)) else (if bt526.2.1.size ≤ 9223372036854775807 then (if bt526.1 > (bt526.2.1.size : Int) then (some ((⟨#[]⟩ : ByteArray), (⟨#[]⟩ : ByteArray), true)) else (if 0 ≤ bt526.1 then (if bt526.1 ≤ (bt526.2.1.size : Int) then (some (bt526.2.1.extract 0 (bt526.1 : Int).toNat, bt526.2.1.extract (bt526.1 : Int).toNat bt526.2.1.size, false)) else (none)) else (none))) else (none)))))) = some (r1, r2, r3) := h
 clear h
 replace H := Option.bind_eq_some_iff.mp H
 obtain ⟨⟨t526, t527, t528⟩, A30, H⟩ := H
 replace H : (if t528 = true then (some ((⟨#[]⟩ : ByteArray), (⟨#[]⟩ : ByteArray), true)) else (if a1 < 0 then (some ((⟨#[]⟩ : ByteArray), (⟨#[]⟩ : ByteArray), true)) else (if t526 > (IntKind.u64.wrap (a1)) then (some ((⟨#[]⟩ : ByteArray), (⟨#[]⟩ : ByteArray), true)) else (if t527.size ≤ 9223372036854775807 then (if t526 > (t527.size : Int) then (some ((⟨#[]⟩ : ByteArray), (⟨#[]⟩ : ByteArray), true)) else (if 0 ≤ t526 then (if t526 ≤ (t527.size : Int) then (some (t527.extract 0 (t526 : Int).toNat, t527.extract (t526 : Int).toNat t527.size, false)) else (none)) else (none))) else (none))))) = some (r1, r2, r3) := H
 have A3 := Aside0.mk A30
 clear A30
 by_cases c4 : t528 = true
 ·subst c4
  have H1 : (some ((⟨#[]⟩ : ByteArray), (⟨#[]⟩ : ByteArray), true)) = some (r1, r2, r3) := by rw [if_pos rfl] at H; exact H
  clear H
  have H := H1
  clear H1
  simp only [Option.some.injEq, Prod.mk.injEq] at H
  obtain ⟨rfl, rfl, rfl⟩ := H
  go_enter Try.func58, Try.ntmps58
  go_wp2_with (first | ((with_reducible refine gate_dst (N := 2) rfl ?_); refine Ka_ 2 #[.string a0_0, .bool a0_1] 104 ?_; intro gb524 hg w5 hbox hb; have BK524 := Aside0.mk (hbox); have GW524 := Kw_ HB hg; have GE524 := GW524; replace HB := Ks_ HB hb; clear hb hbox hg) | ((with_reducible refine gate_dst (N := 5) rfl ?_); refine Ka_ 5 #[.string (⟨#[]⟩ : ByteArray), .bool false] 104 ?_; intro gb525 hg w6 hbox hb; have BK525 := Aside0.mk (hbox); have GW525 := Kw_ HB hg; have GE525 := GW525; have NB524_525 := Kl_ BK524 hg; have NB525_524 := Kr_ BK524 hg; replace BK524 := Kb_ BK524 hb; replace HB := Ks_ HB hb; clear hb hbox hg; have hnb7 := NB524_525.out; have hnc7 := NB525_524.out; obtain ⟨hcz8_0, hcz8_1, hfz8_0, hfz8_1⟩ := Ke2_ BK524.out) | ((with_reducible refine gate_callee (f := 74) rfl ?_); refine Kg_ (some 10) rfl rfl Try.func74 (by kernel_rfl) rfl #[.agg #[.string a0_0, .bool a0_1]] rfl ?_; (with_reducible refine (tenementref02_Reader_Vary.calls k a0_0 a0_1 t526 t527 true _ A3.out).mono ?_); rintro e w9 ⟨rfl, hb⟩; refine ⟨_, rfl, ?_⟩; replace BK524 := Kb_ BK524 hb; replace BK525 := Kb_ BK525 hb; replace HB := Ks_ HB hb; (try clear hb); (try clear hb2); (try clear hk); (try clear hi)) | ((with_reducible refine gate_dst (N := 7) rfl ?_); refine Ka_ 7 #[.string (⟨#[]⟩ : ByteArray), .bool false] 104 ?_; intro gb529 hg w10 hbox hb; have BK529 := Aside0.mk (hbox); have GW529 := Kw_ HB hg; have GE529 := GW529; have NB524_529 := Kl_ BK524 hg; have NB529_524 := Kr_ BK524 hg; have NB525_529 := Kl_ BK525 hg; have NB529_525 := Kr_ BK525 hg; replace BK524 := Kb_ BK524 hb; replace BK525 := Kb_ BK525 hb; replace HB := Ks_ HB hb; clear hb hbox hg; have hnb11 := NB529_524.out; have hnc11 := NB524_529.out; have hnb12 := NB529_525.out; have hnc12 := NB525_529.out; obtain ⟨hcz13_0, hcz13_1, hfz13_0, hfz13_1⟩ := Ke2_ BK529.out; obtain ⟨hcz14_0, hcz14_1, hfz14_0, hfz14_1⟩ := Ke2_ BK525.out))
  refine bodyPost_ret (results_tc rfl _ _ gb525 104 #[.string (⟨#[]⟩ : ByteArray), .bool true] (0, 0) _ rfl (by refine Kv_ ?_; refine blk_put (cs := #[.string (⟨#[]⟩ : ByteArray), .bool false]) ?_ 1 _ rfl; refine Kv_ ?_; refine blk_put (cs := #[.string (⟨#[]⟩ : ByteArray), .bool false]) ?_ 0 _ rfl; exact K1b_ BK525 NB525_529) Try.underlying104 rfl (by kernel_rfl)) rfl ?_
  exact ⟨Kh_, K3a_ HB GE524 GE525 GE529⟩
 replace c4 := Bool.eq_false_iff.mpr c4
 subst c4
 have H1 : (if a1 < 0 then (some ((⟨#[]⟩ : ByteArray), (⟨#[]⟩ : ByteArray), true)) else (if t526 > (IntKind.u64.wrap (a1)) then (some ((⟨#[]⟩ : ByteArray), (⟨#[]⟩ : ByteArray), true)) else (if t527.size ≤ 9223372036854775807 then (if t526 > (t527.size : Int) then (some ((⟨#[]⟩ : ByteArray), (⟨#[]⟩ : ByteArray), true)) else (if 0 ≤ t526 then (if t526 ≤ (t527.size : Int) then (some (t527.extract 0 (t526 : Int).toNat, t527.extract (t526 : Int).toNat t527.size, false)) else (none)) else (none))) else (none)))) = some (r1, r2, r3) := by rw [if_neg (show ¬ (false = true) by decide)] at H; exact H
 clear H
 have H := H1
 clear H1
 by_cases c15 : a1 < 0
 ·rw [if_pos c15] at H
  have c15b0 : decide (a1 < 0) = true := decide_eq_true c15
  clear c15
  simp only [Option.some.injEq, Prod.mk.injEq] at H
  obtain ⟨rfl, rfl, rfl⟩ := H
  go_enter Try.func58, Try.ntmps58
  go_wp2_with (first | ((with_reducible refine gate_dst (N := 2) rfl ?_); refine Ka_ 2 #[.string a0_0, .bool a0_1] 104 ?_; intro gb524 hg w16 hbox hb; have BK524 := Aside0.mk (hbox); have GW524 := Kw_ HB hg; have GE524 := GW524; replace HB := Ks_ HB hb; clear hb hbox hg) | ((with_reducible refine gate_dst (N := 5) rfl ?_); refine Ka_ 5 #[.string (⟨#[]⟩ : ByteArray), .bool false] 104 ?_; intro gb525 hg w17 hbox hb; have BK525 := Aside0.mk (hbox); have GW525 := Kw_ HB hg; have GE525 := GW525; have NB524_525 := Kl_ BK524 hg; have NB525_524 := Kr_ BK524 hg; replace BK524 := Kb_ BK524 hb; replace HB := Ks_ HB hb; clear hb hbox hg; have hnb18 := NB524_525.out; have hnc18 := NB525_524.out; obtain ⟨hcz19_0, hcz19_1, hfz19_0, hfz19_1⟩ := Ke2_ BK524.out) | ((with_reducible refine gate_callee (f := 74) rfl ?_); refine Kg_ (some 10) rfl rfl Try.func74 (by kernel_rfl) rfl #[.agg #[.string a0_0, .bool a0_1]] rfl ?_; (with_reducible refine (tenementref02_Reader_Vary.calls k a0_0 a0_1 t526 t527 false _ A3.out).mono ?_); rintro e w20 ⟨rfl, hb⟩; refine ⟨_, rfl, ?_⟩; replace BK524 := Kb_ BK524 hb; replace BK525 := Kb_ BK525 hb; replace HB := Ks_ HB hb; (try clear hb); (try clear hb2); (try clear hk); (try clear hi)) | ((with_reducible refine gate_dst (N := 7) rfl ?_); refine Ka_ 7 #[.string (⟨#[]⟩ : ByteArray), .bool false] 104 ?_; intro gb529 hg w21 hbox hb; have BK529 := Aside0.mk (hbox); have GW529 := Kw_ HB hg; have GE529 := GW529; have NB524_529 := Kl_ BK524 hg; have NB529_524 := Kr_ BK524 hg; have NB525_529 := Kl_ BK525 hg; have NB529_525 := Kr_ BK525 hg; replace BK524 := Kb_ BK524 hb; replace BK525 := Kb_ BK525 hb; replace HB := Ks_ HB hb; clear hb hbox hg; have hnb22 := NB529_524.out; have hnc22 := NB524_529.out; have hnb23 := NB529_525.out; have hnc23 := NB525_529.out; obtain ⟨hcz24_0, hcz24_1, hfz24_0, hfz24_1⟩ := Ke2_ BK529.out; obtain ⟨hcz25_0, hcz25_1, hfz25_0, hfz25_1⟩ := Ke2_ BK525.out))
  refine bodyPost_ret (results_tc rfl _ _ gb525 104 #[.string (⟨#[]⟩ : ByteArray), .bool true] (0, 0) _ rfl (by refine Kv_ ?_; refine blk_put (cs := #[.string (⟨#[]⟩ : ByteArray), .bool false]) ?_ 1 _ rfl; refine Kv_ ?_; refine blk_put (cs := #[.string (⟨#[]⟩ : ByteArray), .bool false]) ?_ 0 _ rfl; exact K1b_ BK525 NB525_529) Try.underlying104 rfl (by kernel_rfl)) rfl ?_
  exact ⟨Kh_, K3a_ HB GE524 GE525 GE529⟩
 rw [if_neg c15] at H
 have c15b0 : decide (a1 < 0) = false := decide_eq_false c15
 clear c15
 by_cases c26 : t526 > (IntKind.u64.wrap (a1))
 ·rw [if_pos c26] at H
  have c26b0 : decide ((IntKind.u64.wrap (a1)) < t526) = true := decide_eq_true c26
  clear c26
  simp only [Option.some.injEq, Prod.mk.injEq] at H
  obtain ⟨rfl, rfl, rfl⟩ := H
  go_enter Try.func58, Try.ntmps58
  go_wp2_with (first | ((with_reducible refine gate_dst (N := 2) rfl ?_); refine Ka_ 2 #[.string a0_0, .bool a0_1] 104 ?_; intro gb524 hg w27 hbox hb; have BK524 := Aside0.mk (hbox); have GW524 := Kw_ HB hg; have GE524 := GW524; replace HB := Ks_ HB hb; clear hb hbox hg) | ((with_reducible refine gate_dst (N := 5) rfl ?_); refine Ka_ 5 #[.string (⟨#[]⟩ : ByteArray), .bool false] 104 ?_; intro gb525 hg w28 hbox hb; have BK525 := Aside0.mk (hbox); have GW525 := Kw_ HB hg; have GE525 := GW525; have NB524_525 := Kl_ BK524 hg; have NB525_524 := Kr_ BK524 hg; replace BK524 := Kb_ BK524 hb; replace HB := Ks_ HB hb; clear hb hbox hg; have hnb29 := NB524_525.out; have hnc29 := NB525_524.out; obtain ⟨hcz30_0, hcz30_1, hfz30_0, hfz30_1⟩ := Ke2_ BK524.out) | ((with_reducible refine gate_callee (f := 74) rfl ?_); refine Kg_ (some 10) rfl rfl Try.func74 (by kernel_rfl) rfl #[.agg #[.string a0_0, .bool a0_1]] rfl ?_; (with_reducible refine (tenementref02_Reader_Vary.calls k a0_0 a0_1 t526 t527 false _ A3.out).mono ?_); rintro e w31 ⟨rfl, hb⟩; refine ⟨_, rfl, ?_⟩; replace BK524 := Kb_ BK524 hb; replace BK525 := Kb_ BK525 hb; replace HB := Ks_ HB hb; (try clear hb); (try clear hb2); (try clear hk); (try clear hi)) | ((with_reducible refine gate_dst (N := 7) rfl ?_); refine Ka_ 7 #[.string (⟨#[]⟩ : ByteArray), .bool false] 104 ?_; intro gb529 hg w32 hbox hb; have BK529 := Aside0.mk (hbox); have GW529 := Kw_ HB hg; have GE529 := GW529; have NB524_529 := Kl_ BK524 hg; have NB529_524 := Kr_ BK524 hg; have NB525_529 := Kl_ BK525 hg; have NB529_525 := Kr_ BK525 hg; replace BK524 := Kb_ BK524 hb; replace BK525 := Kb_ BK525 hb; replace HB := Ks_ HB hb; clear hb hbox hg; have hnb33 := NB529_524.out; have hnc33 := NB524_529.out; have hnb34 := NB529_525.out; have hnc34 := NB525_529.out; obtain ⟨hcz35_0, hcz35_1, hfz35_0, hfz35_1⟩ := Ke2_ BK529.out; obtain ⟨hcz36_0, hcz36_1, hfz36_0, hfz36_1⟩ := Ke2_ BK525.out))
  refine bodyPost_ret (results_tc rfl _ _ gb525 104 #[.string (⟨#[]⟩ : ByteArray), .bool true] (0, 0) _ rfl (by refine Kv_ ?_; refine blk_put (cs := #[.string (⟨#[]⟩ : ByteArray), .bool false]) ?_ 1 _ rfl; refine Kv_ ?_; refine blk_put (cs := #[.string (⟨#[]⟩ : ByteArray), .bool false]) ?_ 0 _ rfl; exact K1b_ BK525 NB525_529) Try.underlying104 rfl (by kernel_rfl)) rfl ?_
  exact ⟨Kh_, K3a_ HB GE524 GE525 GE529⟩
 rw [if_neg c26] at H
 have c26b0 : decide ((IntKind.u64.wrap (a1)) < t526) = false := decide_eq_false c26
 clear c26
 by_cases c37 : t527.size ≤ 9223372036854775807
 rotate_left
 ·rw [if_neg c37] at H
  exact absurd H (by simp)
 rw [if_pos c37] at H
 have c37b0 := eq_true c37
 have c37b1 : decide (t527.size ≤ 9223372036854775807) = true := decide_eq_true c37
 try have c37b2 : (9223372036854775807 < t527.size) = False := eq_false (Nat.not_lt.2 c37)
 by_cases c38 : t526 > (t527.size : Int)
 ·rw [if_pos c38] at H
  have c38b0 : decide ((t527.size : Int) < t526) = true := decide_eq_true c38
  clear c38
  simp only [Option.some.injEq, Prod.mk.injEq] at H
  obtain ⟨rfl, rfl, rfl⟩ := H
  go_enter Try.func58, Try.ntmps58
  go_wp2_with (first | ((with_reducible refine gate_dst (N := 2) rfl ?_); refine Ka_ 2 #[.string a0_0, .bool a0_1] 104 ?_; intro gb524 hg w39 hbox hb; have BK524 := Aside0.mk (hbox); have GW524 := Kw_ HB hg; have GE524 := GW524; replace HB := Ks_ HB hb; clear hb hbox hg) | ((with_reducible refine gate_dst (N := 5) rfl ?_); refine Ka_ 5 #[.string (⟨#[]⟩ : ByteArray), .bool false] 104 ?_; intro gb525 hg w40 hbox hb; have BK525 := Aside0.mk (hbox); have GW525 := Kw_ HB hg; have GE525 := GW525; have NB524_525 := Kl_ BK524 hg; have NB525_524 := Kr_ BK524 hg; replace BK524 := Kb_ BK524 hb; replace HB := Ks_ HB hb; clear hb hbox hg; have hnb41 := NB524_525.out; have hnc41 := NB525_524.out; obtain ⟨hcz42_0, hcz42_1, hfz42_0, hfz42_1⟩ := Ke2_ BK524.out) | ((with_reducible refine gate_callee (f := 74) rfl ?_); refine Kg_ (some 10) rfl rfl Try.func74 (by kernel_rfl) rfl #[.agg #[.string a0_0, .bool a0_1]] rfl ?_; (with_reducible refine (tenementref02_Reader_Vary.calls k a0_0 a0_1 t526 t527 false _ A3.out).mono ?_); rintro e w43 ⟨rfl, hb⟩; refine ⟨_, rfl, ?_⟩; replace BK524 := Kb_ BK524 hb; replace BK525 := Kb_ BK525 hb; replace HB := Ks_ HB hb; (try clear hb); (try clear hb2); (try clear hk); (try clear hi)) | ((with_reducible refine gate_dst (N := 7) rfl ?_); refine Ka_ 7 #[.string (⟨#[]⟩ : ByteArray), .bool false] 104 ?_; intro gb529 hg w44 hbox hb; have BK529 := Aside0.mk (hbox); have GW529 := Kw_ HB hg; have GE529 := GW529; have NB524_529 := Kl_ BK524 hg; have NB529_524 := Kr_ BK524 hg; have NB525_529 := Kl_ BK525 hg; have NB529_525 := Kr_ BK525 hg; replace BK524 := Kb_ BK524 hb; replace BK525 := Kb_ BK525 hb; replace HB := Ks_ HB hb; clear hb hbox hg; have hnb45 := NB529_524.out; have hnc45 := NB524_529.out; have hnb46 := NB529_525.out; have hnc46 := NB525_529.out; obtain ⟨hcz47_0, hcz47_1, hfz47_0, hfz47_1⟩ := Ke2_ BK529.out; obtain ⟨hcz48_0, hcz48_1, hfz48_0, hfz48_1⟩ := Ke2_ BK525.out))
  refine bodyPost_ret (results_tc rfl _ _ gb525 104 #[.string (⟨#[]⟩ : ByteArray), .bool true] (0, 0) _ rfl (by refine Kv_ ?_; refine blk_put (cs := #[.string (⟨#[]⟩ : ByteArray), .bool false]) ?_ 1 _ rfl; refine Kv_ ?_; refine blk_put (cs := #[.string (⟨#[]⟩ : ByteArray), .bool false]) ?_ 0 _ rfl; exact K1b_ BK525 NB525_529) Try.underlying104 rfl (by kernel_rfl)) rfl ?_
  exact ⟨Kh_, K3a_ HB GE524 GE525 GE529⟩
 rw [if_neg c38] at H
 have c38b0 : decide ((t527.size : Int) < t526) = false := decide_eq_false c38
 clear c38
 by_cases c49 : 0 ≤ t526
 rotate_left
 ·rw [if_neg c49] at H
  exact absurd H (by simp)
 rw [if_pos c49] at H
 have c49b0 := eq_true c49
 have c49b1 : decide (0 ≤ t526) = true := decide_eq_true c49
 clear c49
 by_cases c50 : t526 ≤ (t527.size : Int)
 rotate_left
 ·rw [if_neg c50] at H
  exact absurd H (by simp)
 rw [if_pos c50] at H
 have c50b0 := eq_true c50
 have c50b1 : decide (t526 ≤ (t527.size : Int)) = true := decide_eq_true c50
 clear c50
 have c51b0 := eq_true (of_decide_eq_true (by first | (with_reducible assumption) | assumption) : 0 ≤ t526)
 have c52b0 := eq_true (of_decide_eq_true (by first | (with_reducible assumption) | assumption) : t526 ≤ (t527.size : Int))
 simp only [Option.some.injEq, Prod.mk.injEq] at H
 obtain ⟨rfl, rfl, rfl⟩ := H
 go_enter Try.func58, Try.ntmps58
 try go_wp2_with (first | ((with_reducible refine gate_dst (N := 2) rfl ?_); refine Ka_ 2 #[.string a0_0, .bool a0_1] 104 ?_; intro gb524 hg w53 hbox hb; have BK524 := Aside0.mk (hbox); have GW524 := Kw_ HB hg; have GE524 := GW524; replace HB := Ks_ HB hb; clear hb hbox hg) | ((with_reducible refine gate_dst (N := 5) rfl ?_); refine Ka_ 5 #[.string (⟨#[]⟩ : ByteArray), .bool false] 104 ?_; intro gb525 hg w54 hbox hb; have BK525 := Aside0.mk (hbox); have GW525 := Kw_ HB hg; have GE525 := GW525; have NB524_525 := Kl_ BK524 hg; have NB525_524 := Kr_ BK524 hg; replace BK524 := Kb_ BK524 hb; replace HB := Ks_ HB hb; clear hb hbox hg; have hnb55 := NB524_525.out; have hnc55 := NB525_524.out; obtain ⟨hcz56_0, hcz56_1, hfz56_0, hfz56_1⟩ := Ke2_ BK524.out) | ((with_reducible refine gate_callee (f := 74) rfl ?_); refine Kg_ (some 10) rfl rfl Try.func74 (by kernel_rfl) rfl #[.agg #[.string a0_0, .bool a0_1]] rfl ?_; (with_reducible refine (tenementref02_Reader_Vary.calls k a0_0 a0_1 t526 t527 false _ A3.out).mono ?_); rintro e w57 ⟨rfl, hb⟩; refine ⟨_, rfl, ?_⟩; replace BK524 := Kb_ BK524 hb; replace BK525 := Kb_ BK525 hb; replace HB := Ks_ HB hb; (try clear hb); (try clear hb2); (try clear hk); (try clear hi)) | ((with_reducible refine gate_dst (N := 7) rfl ?_); refine Ka_ 7 #[.string (⟨#[]⟩ : ByteArray), .bool false] 104 ?_; intro gb529 hg w58 hbox hb; have BK529 := Aside0.mk (hbox); have GW529 := Kw_ HB hg; have GE529 := GW529; have NB524_529 := Kl_ BK524 hg; have NB529_524 := Kr_ BK524 hg; have NB525_529 := Kl_ BK525 hg; have NB529_525 := Kr_ BK525 hg; replace BK524 := Kb_ BK524 hb; replace BK525 := Kb_ BK525 hb; replace HB := Ks_ HB hb; clear hb hbox hg; have hnb59 := NB529_524.out; have hnc59 := NB524_529.out; have hnb60 := NB529_525.out; have hnc60 := NB525_529.out; obtain ⟨hcz61_0, hcz61_1, hfz61_0, hfz61_1⟩ := Ke2_ BK529.out))
 have n0_ : Aside0 (((w58.setCell ⟨gb529, 0, none⟩ (.string t527)).setCell ⟨gb529, 1, none⟩ (.bool false)).heap[gb524]? = some (.cells #[.string a0_0, .bool a0_1] 104 (0, 0))) := ⟨by exact K1b_ BK524 NB524_529⟩
 have n1_ : Aside0 (((w58.setCell ⟨gb529, 0, none⟩ (.string t527)).setCell ⟨gb529, 1, none⟩ (.bool false)).heap[gb525]? = some (.cells #[.string (⟨#[]⟩ : ByteArray), .bool false] 104 (0, 0))) := ⟨by exact K1b_ BK525 NB525_529⟩
 have n2_ : Aside0 (((w58.setCell ⟨gb529, 0, none⟩ (.string t527)).setCell ⟨gb529, 1, none⟩ (.bool false)).heap[gb529]? = some (.cells #[.string t527, .bool false] 104 (0, 0))) := ⟨by refine Kv_ ?_; refine blk_put (cs := #[.string t527, .bool false]) ?_ 1 _ rfl; refine Kv_ ?_; refine blk_put (cs := #[.string (⟨#[]⟩ : ByteArray), .bool false]) ?_ 0 _ rfl; exact Kq_ BK529⟩
 have n3_ : Aside0 (Below w.heap.size w ((w58.setCell ⟨gb529, 0, none⟩ (.string t527)).setCell ⟨gb529, 1, none⟩ (.bool false))) := ⟨K3a_ HB GE524 GE525 GE529⟩
 (try clear BK524)
 (try clear BK525)
 (try clear BK529)
 (try clear HB)
 generalize ((w58.setCell ⟨gb529, 0, none⟩ (.string t527)).setCell ⟨gb529, 1, none⟩ (.bool false)) = w62 at n0_ n1_ n2_ n3_ ⊢
 have BK524 := n0_
 have BK525 := n1_
 have BK529 := n2_
 have HB := n3_
 clear n0_ n1_ n2_ n3_
 replace BK524 := Kd_ BK524
 replace BK525 := Kd_ BK525
 replace BK529 := Kd_ BK529
 replace HB := Aside0.mk (below_drew1 HB.out)
 refine start_ (n := 11) (S := fun w' => w'.cell? ⟨gb529, 0, none⟩ = some (.string t527) ∧ w'.cell? ⟨gb529, 1, none⟩ = some (.bool false)) (ds := []) (mB_ 11 0) (by kernel_rfl) rfl rfl (Kc2_ BK529.out) (fun hHeld => ?_); refine with_tabW tenementref02_Reader_Text.tab4 tenementref02_Reader_Text.bits4 (fun HT_ HW_ => ?_)
 generalize w62.drew = w63 at BK524 BK525 BK529 HB hHeld ⊢
 refine Kp_ 0 34 (mB_ 11 1) (any_of HT_.out (by kernel_rfl)) ?_
 refine Kp_ 2 36 (mB_ 11 5) (any_of HT_.out (by kernel_rfl)) ?_
 refine Kp_ 4 38 (mB_ 11 21) (any_of HT_.out (by kernel_rfl)) ?_
 refine Kp_ 6 40 (mB_ 11 85) (any_of HT_.out (by kernel_rfl)) ?_
 refine Ko_ 1 35 (mB_ 11 87) (take_ofW HT_.out HW_.out (by kernel_rfl)) hHeld ?_
 refine Kp_ 3 37 (mB_ 11 95) (any_of HT_.out (by kernel_rfl)) ?_
 refine Kp_ 9 4 (mB_ 11 607) (any_of HT_.out (by kernel_rfl)) ?_
 refine Ko_ 5 39 (mB_ 11 639) (take_ofW HT_.out HW_.out (by kernel_rfl)) hHeld ?_
 refine Kp_ 7 41 (mB_ 11 767) (any_of HT_.out (by kernel_rfl)) ?_
 refine Kp_ 8 42 (mB_ 11 1023) (any_of HT_.out (by kernel_rfl)) ?_
 refine one_ (i := 10) (N := none) (mB_ 11 2047) rfl rfl (one_of HT_.out (by kernel_rfl)) (by decide) (fun K hK => ?_)
 have hs64 : w63.cell? ⟨gb525, 0, none⟩ = some (.string (⟨#[]⟩ : ByteArray)) := (blk_cell BK525.out 0).trans rfl
 have hfs64 := blk_frozen BK525.out 0
 have hns64_0 := NB524_525.out
 have hns64_2 := NB529_525.out
 have hms64_0 := NB525_524.out
 have hms64_2 := NB525_529.out
 have hs65 : w63.cell? ⟨gb525, 1, none⟩ = some (.bool false) := (blk_cell BK525.out 1).trans rfl
 have hfs65 := blk_frozen BK525.out 1
 have hns65_0 := NB524_525.out
 have hns65_2 := NB529_525.out
 have hms65_0 := NB525_524.out
 have hms65_2 := NB525_529.out
 refine skip_ (w1 := ?_) (by rfl) rfl ?_ ?_
 rotate_left
 ·go_simp
  rfl
 refine hK.out _ _ ⟨(Kj_ NB529_525 ((Kj_ NB529_525 (hHeld.1)))), (Kj_ NB529_525 ((Kj_ NB529_525 (hHeld.2))))⟩ (fun hHeld => ?_)
 clear hK K
 refine done_ (done_of HT_.out (by kernel_rfl)) ?_
 try go_wp2
 refine bodyPost_ret (results_tc rfl _ _ gb525 104 #[.string (t527.extract (t526 : Int).toNat t527.size), .bool false] (0, 0) _ rfl (by refine Kv_ ?_; refine blk_put (cs := #[.string (t527.extract (t526 : Int).toNat t527.size), .bool false]) ?_ 1 _ rfl; refine Kv_ ?_; refine blk_put (cs := #[.string (⟨#[]⟩ : ByteArray), .bool false]) ?_ 0 _ rfl; exact Kq_ BK525) Try.underlying104 rfl (by kernel_rfl)) rfl ?_
 exact ⟨Kh_, K3a_ HB GE524 GE525 GE529⟩
end Go.Proofs.Ytoogchgoiciggaa.Q

set_option linter.unusedVariables false
set_option linter.unusedSimpArgs false
namespace Go.Proofs.Ytoogchgoiciggaa.Open
open Go Go.RowKit Go.Deep Go.WideShapes Go.ChangeShapes Go.Proofs.YtoogchgoiciggaaW.PrintWords Go.Proofs.YtoogchgoiciggaaW.PrintLast Go.Proofs.YtoogchgoiciggaaW.PrintMore
structure To (P : Program) (t : TypeId) {α : Type} (K : Kd α) (wf : α → Prop) : Prop where
 sz : P.cellsOf t = K.sz
 go : ∀ {H : Type} (enc : TypeId × Value → H) (w : World) (fuel : Nat) (cs : List Value) (d : DataW H) (ps : List MemPlace),
  DataW.trod enc P w 0 (fun _ => true) true fuel t cs = some (d, ps) → (DataW.weights P t d).all (· ≤ reachBytes) = true → ∃ x : α, K.K w x cs ∧ wf x
theorem int {P : Program} {t : TypeId} {k : IntKind} (ht : P.underlying t = some (.int k)) (hs : P.cellsOf t = 1) : To P t (Kd.int k) (fun n => (Lit.int k n).wf = true) := by
 refine ⟨hs, fun enc w fuel cs d ps h _ => ?_⟩
 obtain ⟨n, rfl, _, hw⟩ := DataW.trod_int ht h
 exact ⟨n, rfl, hw⟩
theorem bool {P : Program} {t : TypeId} (ht : P.underlying t = some .bool) (hs : P.cellsOf t = 1) : To P t Kd.bool (fun _ => True) := by
 refine ⟨hs, fun enc w fuel cs d ps h _ => ?_⟩
 obtain ⟨b, rfl, _⟩ := DataW.trod_bool ht h
 exact ⟨b, rfl, trivial⟩
theorem string {P : Program} {t : TypeId} (ht : P.underlying t = some .string) (hs : P.cellsOf t = 1) : To P t Kd.string (fun s => s.size ≤ 140737488351232) := by
 refine ⟨hs, fun enc w fuel cs d ps h hw => ?_⟩
 obtain ⟨s, rfl, hx, _⟩ := DataW.trod_string ht h
 obtain ⟨rfl, _⟩ := Prod.mk.inj hx
 refine ⟨s, rfl, ?_⟩
 simp only [DataW.weights, List.all_cons, List.all_nil, Bool.and_true, reachBytes, Array.length_toList] at hw
 exact of_decide_eq_true hw
theorem weightsAll_mem {H : Type} {P : Program} {e : TypeId} : ∀ {l : List (DataW H)} {d : DataW H}, d ∈ l → (DataW.weightsAll P e l).all (· ≤ reachBytes) = true → (DataW.weights P e d).all (· ≤ reachBytes) = true
 | [], _, h, _ => by cases h
 | a :: l, d, h, hw => by
  simp only [DataW.weightsAll, List.all_append, Bool.and_eq_true] at hw
  rcases List.mem_cons.1 h with rfl | h
  ·exact hw.1
  ·exact weightsAll_mem h hw.2
theorem add_add (a : Addr) (i j : Nat) : (a.add i).add j = a.add (i + j) := by
 unfold Addr.add
 by_cases h1 : i = 0 <;> by_cases h2 : j = 0 <;> simp [h1, h2, Nat.add_assoc]
theorem slice {P : Program} {t e : TypeId} {α : Type} {K : Kd α} {wf : α → Prop} {B : Nat} (ht : P.underlying t = some (.slice e)) (hs : P.cellsOf t = 1) (hB : P.bytesOf e = B) (he : To P e K wf) :
  To P t (Kd.slice e K) (fun l => (∀ x ∈ l, wf x) ∧ l.length * B ≤ 140737488351232) := by
 refine ⟨hs, fun {H} enc w fuel cs d ps h hw => ?_⟩
 rcases open_slice ht h with ⟨rfl, _⟩ | ⟨a, len, cap, m, n, D, Pl, rfl, _, hl, hm, hmc, hx, hel⟩
 ·exact ⟨[], ⟨none, 0, rfl, Nat.le_refl _, rfl, by simp, fun h => absurd h (by simp)⟩, by simp, by simp⟩
 ·obtain ⟨rfl, _⟩ := Prod.mk.inj hx
  simp only [if_true] at hmc
  subst hmc
  have hw1 := hw
  simp only [DataW.weights, ht, List.all_cons, List.all_append, Bool.and_eq_true, decide_eq_true_eq, List.length_map, List.length_range, hB, reachBytes] at hw1
  have hchoose : ∀ i, i < len → ∃ x : α, (∃ cs', w.cells? 0 (a.add (i * P.cellsOf e)) (P.cellsOf e) = some cs' ∧ K.K w x cs') ∧ wf x := by
   intro i hi
   obtain ⟨cs', h1, h2⟩ := hel i (by omega)
   obtain ⟨x, hx1, hx2⟩ := he.go enc w n cs' (D i) (Pl i) h2 (weightsAll_mem (List.mem_map.2 ⟨i, by simpa using hi, rfl⟩) hw1.2.1)
   exact ⟨x, ⟨cs', h1, hx1⟩, hx2⟩
  have hall : ∀ k, k ≤ len → ∃ l : List α, l.length = k ∧ ∀ i x, l[i]? = some x → (∃ cs', w.cells? 0 (a.add (i * P.cellsOf e)) (P.cellsOf e) = some cs' ∧ K.K w x cs') ∧ wf x := by
   intro k
   induction k with
   | zero => intro _; exact ⟨[], rfl, fun i x h => by simp at h⟩
   | succ k ih =>
    intro hk
    obtain ⟨l, h1, h2⟩ := ih (by omega)
    obtain ⟨x, hx⟩ := hchoose k (by omega)
    refine ⟨l ++ [x], by simp [h1], fun i y hy => ?_⟩
    by_cases hi : i < l.length
    ·exact h2 i y (by rwa [List.getElem?_append_left hi] at hy)
    ·rw [List.getElem?_append_right (by omega)] at hy
     have : i = l.length := by
      have := (List.getElem?_eq_some_iff.1 hy).1
      simp at this; omega
     subst this
     simp at hy
     subst hy
     rw [h1]; exact hx
  obtain ⟨l, h1, h2⟩ := hall len (Nat.le_refl _)
  refine ⟨l, ⟨some a, m, by rw [h1], by omega, rfl, by unfold maxLen at hm; omega, fun _ => ⟨a, rfl, fun j p hj => ?_⟩⟩, ?_, ?_⟩
  ·obtain ⟨⟨cs', g1, g2⟩, _⟩ := h2 j p hj
   obtain ⟨_, g3, g4⟩ := World.cells?_some g1
   refine ⟨cs', by rw [g3, he.sz], g2, fun i u hu => ?_⟩
   have hi : i < P.cellsOf e := by
    have := (List.getElem?_eq_some_iff.1 hu).1
    omega
   rw [← hu, ← g4 i hi, add_add, he.sz]
  ·intro x hx
   obtain ⟨i, hi, rfl⟩ := List.getElem_of_mem hx
   exact (h2 i _ (List.getElem?_eq_getElem hi)).2
  ·rw [h1]
   refine Nat.le_trans (Nat.mul_le_mul_right _ ?_) (of_decide_eq_true hw1.1)
   omega
structure Fs (P : Program) (o : Nat) (fs : List (TypeId × Nat)) {α : Type} (K : Kd α) (wf : α → Prop) : Prop where
 go : ∀ {H : Type} (enc : TypeId × Value → H) (w : World) (n : Nat) (cs : List Value) (xs : List (DataW H × List MemPlace)), cs.length = o + K.sz → xs.length = fs.length →
  (∀ (i : Nat) (f : TypeId × Nat), fs[i]? = some f → DataW.trod enc P w 0 (fun _ => true) true n f.1 ((cs.drop f.2).take (P.cellsOf f.1)) = xs[i]?) →
  (DataW.weightsEach P (fs.map (·.1)) (xs.map (·.1))).all (· ≤ reachBytes) = true → ∃ x : α, K.K w x (cs.drop o) ∧ wf x
theorem one {P : Program} {o : Nat} {t : TypeId} {α : Type} {K : Kd α} {wf : α → Prop} (h : To P t K wf) : Fs P o [(t, o)] K wf := by
 refine ⟨fun enc w n cs xs hl hx hr hw => ?_⟩
 match xs, hx with
 | [x], _ =>
  have h0 := hr 0 _ rfl
  simp only [List.getElem?_cons_zero] at h0
  rw [h.sz, List.take_of_length_le (by simp; omega)] at h0
  simp only [List.map_cons, List.map_nil, DataW.weightsEach, List.append_nil] at hw
  exact h.go enc w n _ x.1 x.2 h0 hw
theorem cons {P : Program} {o : Nat} {t : TypeId} {fs : List (TypeId × Nat)} {α β : Type} {K : Kd α} {wf : α → Prop} {L : Kd β} {wg : β → Prop} (h : To P t K wf) (hs : Fs P (o + K.sz) fs L wg) :
  Fs P o ((t, o) :: fs) (Kd.pair K L) (fun x => wf x.1 ∧ wg x.2) := by
 refine ⟨fun {H} enc w n cs xs hl hx hr hw => ?_⟩
 have hsz : (Kd.pair K L).sz = K.sz + L.sz := rfl
 match xs, hx with
 | x :: xs, hx =>
  have h0 := hr 0 _ rfl
  simp only [List.getElem?_cons_zero] at h0
  rw [h.sz] at h0
  simp only [List.map_cons, DataW.weightsEach, List.all_append, Bool.and_eq_true] at hw
  obtain ⟨a, ha, hwa⟩ := h.go enc w n _ x.1 x.2 h0 hw.1
  obtain ⟨b, hb, hwb⟩ := hs.go enc w n cs xs (by omega) (by simpa using hx) (fun i f hf => by have := hr (i + 1) f (by simpa using hf); simpa using this) hw.2
  refine ⟨(a, b), ⟨_, _, ?_, ha, hb⟩, hwa, hwb⟩
  rw [← List.drop_drop, List.take_append_drop]
theorem struct {P : Program} {t : TypeId} {fs : Array Field} {gs : List (TypeId × Nat)} {α : Type} {K : Kd α} {wf : α → Prop} (ht : P.underlying t = some (.struct fs)) (hg : fs.toList.map (fun f => (f.type, f.offset)) = gs) (hs : P.cellsOf t = K.sz) (h : Fs P 0 gs K wf) : To P t K wf := by
 refine ⟨hs, fun {H} enc w fuel cs d ps hr hw => ?_⟩
 obtain ⟨xs, n, _, hx, hl, hxl, hel⟩ := DataW.trod_struct ht hr
 obtain ⟨rfl, _⟩ := Prod.mk.inj hx
 have := h.go enc w n cs xs (by omega) (by rw [← hg]; simpa using hxl) (fun i f hf => ?_) ?_
 ·simpa using this
 ·rw [← hg] at hf
  simp only [List.getElem?_map, Option.map_eq_some_iff] at hf
  obtain ⟨g, hg1, rfl⟩ := hf
  exact hel i g (by simpa using hg1)
 ·rw [← hg]
  simp only [DataW.weights, ht] at hw
  simpa [List.map_map, Function.comp_def] using hw
theorem weightsAll_each {H : Type} (P : Program) (e : TypeId) : ∀ (l : List (DataW H)) (ts : List TypeId), ts.length = l.length → (∀ t ∈ ts, t = e) → DataW.weightsEach P ts l = DataW.weightsAll P e l
 | [], [], _, _ => rfl
 | [], _ :: _, h, _ => by simp at h
 | _ :: _, [], h, _ => by simp at h
 | d :: l, t :: ts, h, ht => by
  simp only [DataW.weightsEach, DataW.weightsAll]
  rw [ht t (by simp), weightsAll_each P e l ts (by simpa using h) (fun x hx => ht x (by simp [hx]))]
theorem array {P : Program} {t e : TypeId} {n s : Nat} {α : Type} {K : Kd α} {wf : α → Prop} (ht : P.underlying t = some (.array n e)) (he : P.cellsOf e = s) (hs : P.cellsOf t = K.sz) (h : Fs P 0 ((List.range n).map fun i => (e, i * s)) K wf) : To P t K wf := by
 refine ⟨hs, fun {H} enc w fuel cs d ps hr hw => ?_⟩
 obtain ⟨xs, m, _, hx, hl, hxl, hel⟩ := DataW.trod_array ht hr
 obtain ⟨rfl, _⟩ := Prod.mk.inj hx
 have := h.go enc w m cs xs (by omega) (by simpa using hxl) (fun i f hf => ?_) ?_
 ·simpa using this
 ·simp only [List.getElem?_map, Option.map_eq_some_iff] at hf
  obtain ⟨g, hg1, rfl⟩ := hf
  have hi : i < n := by have := (List.getElem?_eq_some_iff.1 hg1).1; simpa using this
  have hgi : g = i := by
   have := (List.getElem?_eq_some_iff.1 hg1).2
   simpa using this.symm
  subst hgi
  have := hel g hi
  rw [he] at this ⊢
  exact this
 ·simp only [DataW.weights, ht] at hw
  rw [weightsAll_each P e _ _ (by simp [hxl]) (by simp)]
  exact hw
theorem iso {P : Program} {t : TypeId} {α β : Type} {K : Kd α} {wf : α → Prop} (f : β → α) (g : α → β) (hfg : ∀ a, f (g a) = a) (h : To P t K wf) : To P t (Kd.iso K f) (fun b => wf (f b)) := by
 refine ⟨h.sz, fun {H} enc w fuel cs d ps hr hw => ?_⟩
 obtain ⟨x, h1, h2⟩ := h.go enc w fuel cs d ps hr hw
 refine ⟨g x, ?_, ?_⟩
 ·show K.K w (f (g x)) cs
  rw [hfg]; exact h1
 ·rw [hfg]; exact h2
theorem imp {P : Program} {t : TypeId} {α : Type} {K : Kd α} {wf wf' : α → Prop} (h : To P t K wf) (hi : ∀ x, wf x → wf' x) : To P t K wf' :=
 ⟨h.sz, fun enc w fuel cs d ps hr hw => by
  obtain ⟨x, h1, h2⟩ := h.go enc w fuel cs d ps hr hw
  exact ⟨x, h1, hi x h2⟩⟩
theorem at_param {P : Program} {t : TypeId} {α : Type} {K : Kd α} {wf : α → Prop} (h : To P t K wf) {H : Type} {enc : TypeId × Value → H} {w : World} {v : Value} {d : DataW H} {ps : List MemPlace} {ts : List TypeId} {ds : List (DataW H)} {j : Nat}
  (hsz : (DataW.weightsEach P ts ds).all (· ≤ reachBytes) = true) (ht : ts[j]? = some t) (hd : ds[j]? = some d) (hr : DataW.Trod enc P w 0 (fun _ => true) true t v d ps) : ∃ x : α, K.K w x v.cells.toList ∧ wf x := by
 obtain ⟨fuel, hf⟩ := hr
 refine h.go enc w fuel _ d ps hf ?_
 rw [List.all_eq_true]
 intro x hx
 exact List.all_eq_true.1 hsz x (DataW.weights_mem_each ht hd x hx)
end Go.Proofs.Ytoogchgoiciggaa.Open

set_option linter.unusedVariables false
namespace Go.Proofs.Ytoogchgoiciggaa.Q
open Go.RowKit Go.Proofs.Ytoogchgoiciggaa.Q Go.Proofs.YtoogchgoiciggaaW.PrintWords Go.Proofs.YtoogchgoiciggaaW.PrintLast Go.Proofs.YtoogchgoiciggaaW.PrintMore
open Go.Proofs.Ytoogchgoiciggaa
def wf23 (x : S23) : Prop := (x.f0.size ≤ 140737488351232) ∧ (x.f1.size ≤ 140737488351232) ∧ (x.f2.size ≤ 140737488351232) ∧ (True)
theorem to23 : Open.To Try.prog 23 k23 wf23 := Open.imp (Open.iso (fun x : S23 => (x.f0, (x.f1, (x.f2, x.f3)))) (fun y => (⟨y.1, y.2.1, y.2.2.1, y.2.2.2⟩ : S23)) (fun _ => rfl) (Open.struct Try.underlying23 (by rfl) (by kernel_rfl) (show Open.Fs Try.prog 0 [(9, 0), (9, 1), (9, 2), (4, 3)] _ _ from (Open.cons (Open.string Try.underlying9 (by kernel_rfl)) (Open.cons (Open.string Try.underlying9 (by kernel_rfl)) (Open.cons (Open.string Try.underlying9 (by kernel_rfl)) (Open.one (Open.bool Try.underlying4 (by kernel_rfl))))))))) (fun _ h => h)
def wf25 (x : S25) : Prop := (wf23 x.f0) ∧ (True) ∧ ((Lit.int .u8 x.f2).wf = true)
theorem to25 : Open.To Try.prog 25 k25 wf25 := Open.imp (Open.iso (fun x : S25 => (x.f0, (x.f1, x.f2))) (fun y => (⟨y.1, y.2.1, y.2.2⟩ : S25)) (fun _ => rfl) (Open.struct Try.underlying25 (by rfl) (by kernel_rfl) (show Open.Fs Try.prog 0 [(23, 0), (4, 4), (5, 5)] _ _ from (Open.cons to23 (Open.cons (Open.bool Try.underlying4 (by kernel_rfl)) (Open.one (Open.int Try.underlying5 (by kernel_rfl)))))))) (fun _ h => h)
def wf28 (x : S28) : Prop := ((Lit.int .u64 x.f0).wf = true) ∧ ((Lit.int .u64 x.f1).wf = true) ∧ ((Lit.int .u64 x.f2).wf = true) ∧ ((Lit.int .u64 x.f3).wf = true)
theorem to28 : Open.To Try.prog 28 k28 wf28 := Open.imp (Open.iso (fun x : S28 => (x.f0, (x.f1, (x.f2, x.f3)))) (fun y => (⟨y.1, y.2.1, y.2.2.1, y.2.2.2⟩ : S28)) (fun _ => rfl) (Open.array (n := 4) (e := 26) (s := 1) Try.underlying28 (by kernel_rfl) (by kernel_rfl) (show Open.Fs Try.prog 0 [(26, 0), (26, 1), (26, 2), (26, 3)] _ _ from (Open.cons (Open.int Try.underlying26 (by kernel_rfl)) (Open.cons (Open.int Try.underlying26 (by kernel_rfl)) (Open.cons (Open.int Try.underlying26 (by kernel_rfl)) (Open.one (Open.int Try.underlying26 (by kernel_rfl))))))))) (fun _ h => h)
def wf30 (x : S30) : Prop := (wf28 x.f0) ∧ ((Lit.int .i64 x.f1).wf = true)
theorem to30 : Open.To Try.prog 30 k30 wf30 := Open.imp (Open.iso (fun x : S30 => (x.f0, x.f1)) (fun y => (⟨y.1, y.2⟩ : S30)) (fun _ => rfl) (Open.struct Try.underlying30 (by rfl) (by kernel_rfl) (show Open.Fs Try.prog 0 [(28, 0), (3, 4)] _ _ from (Open.cons to28 (Open.one (Open.int Try.underlying3 (by kernel_rfl))))))) (fun _ h => h)
def wf32 (x : S32) : Prop := (wf30 x.f0) ∧ (True)
theorem to32 : Open.To Try.prog 32 k32 wf32 := Open.imp (Open.iso (fun x : S32 => (x.f0, x.f1)) (fun y => (⟨y.1, y.2⟩ : S32)) (fun _ => rfl) (Open.struct Try.underlying32 (by rfl) (by kernel_rfl) (show Open.Fs Try.prog 0 [(30, 0), (4, 5)] _ _ from (Open.cons to30 (Open.one (Open.bool Try.underlying4 (by kernel_rfl))))))) (fun _ h => h)
def wf35 (x : S35) : Prop := (wf32 x.f0) ∧ ((∀ x_ ∈ x.f1, wf25 x_) ∧ x.f1.length * 64 ≤ 140737488351232) ∧ (True)
theorem to35 : Open.To Try.prog 35 k35 wf35 := Open.imp (Open.iso (fun x : S35 => (x.f0, (x.f1, x.f2))) (fun y => (⟨y.1, y.2.1, y.2.2⟩ : S35)) (fun _ => rfl) (Open.struct Try.underlying35 (by rfl) (by kernel_rfl) (show Open.Fs Try.prog 0 [(32, 0), (33, 6), (4, 7)] _ _ from (Open.cons to32 (Open.cons (Open.slice (e := 25) (B := 64) Try.underlying33 (by kernel_rfl) (by kernel_rfl) to25) (Open.one (Open.bool Try.underlying4 (by kernel_rfl)))))))) (fun _ h => h)
end Go.Proofs.Ytoogchgoiciggaa.Q

set_option linter.unusedVariables false
set_option linter.unusedSimpArgs false
namespace Go.Proofs.Ytoogchgoiciggaa.Pure
open Go.RowKit Go.Proofs.YtoogchgoiciggaaW.PrintWords Go.Proofs.YtoogchgoiciggaaW.PrintLast Go.Proofs.YtoogchgoiciggaaW.PrintMore
def bl (s : ByteArray) : List Nat := s.data.toList.map UInt8.toNat
theorem bl_length (s : ByteArray) : (bl s).length = s.size := by unfold bl; rw [List.length_map, Array.length_toList]; rfl
theorem bl_lt (s : ByteArray) : ∀ b ∈ bl s, b < 256 := by
 intro b hb
 obtain ⟨u, _, rfl⟩ := List.mem_map.1 hb
 exact u.toNat_lt
theorem map_toNat_inj : ∀ {l m : List UInt8}, l.map UInt8.toNat = m.map UInt8.toNat → l = m
 | [], [], _ => rfl
 | [], _ :: _, h => by simp at h
 | _ :: _, [], h => by simp at h
 | a :: l, b :: m, h => by
  simp only [List.map_cons, List.cons.injEq] at h
  rw [UInt8.toNat_inj.1 h.1, map_toNat_inj h.2]
theorem ba_ext {s t : ByteArray} (h : s.data.toList = t.data.toList) : s = t := by
 cases s; cases t
 simp only [ByteArray.mk.injEq]
 exact Array.toList_inj.1 h
theorem bl_inj {s t : ByteArray} (h : bl s = bl t) : s = t := ba_ext (map_toNat_inj h)
theorem bl_append (s t : ByteArray) : bl (s ++ t) = bl s ++ bl t := by
 unfold bl; rw [← List.map_append, ByteArray.data_append]; simp
theorem bl_extract (s : ByteArray) (a b : Nat) : bl (s.extract a b) = ((bl s).take b).drop a := by
 unfold bl
 rw [← List.map_take, ← List.map_drop]
 congr 1
 simp [ByteArray.data_extract, Array.toList_extract, List.extract_eq_take_drop, List.drop_take]
theorem bl_take (s : ByteArray) (n : Nat) : bl (s.extract 0 n) = (bl s).take n := by rw [bl_extract, List.drop_zero]
theorem bl_drop (s : ByteArray) (n : Nat) : bl (s.extract n s.size) = (bl s).drop n := by rw [bl_extract, ← bl_length, List.take_length]
theorem toList_data (s : ByteArray) : s.toList = s.data.toList := by
 exact ByteArray.toList_eq s
theorem toList_iff {s t : ByteArray} : s.toList = t.toList ↔ s = t := by
 rw [toList_data, toList_data]; exact ⟨ba_ext, fun h => by rw [h]⟩
def NL (l : List Nat) : List Int := l.map fun n : Nat => (n : Int)
theorem bl_str (l : List Nat) (h : ∀ b ∈ l, b < 256) : bl (strOfNums (NL l)) = l := by
 unfold bl strOfNums NL
 simp only [List.map_map]
 conv => rhs; rw [← List.map_id l]
 apply List.map_congr_left
 intro b hb
 have := h b hb
 simp [UInt8.toNat_ofNat_of_lt', this]
theorem bl_nil {s : ByteArray} : bl s = [] ↔ s = ⟨#[]⟩ := ⟨fun h => bl_inj (by rw [h]; rfl), fun h => by rw [h]; rfl⟩
theorem bt_bl (s : ByteArray) (i : Nat) (h : i < s.size) : ∃ b, (bl s)[i]? = some b ∧ bt s i = (b : Int) ∧ b < 256 := by
 have hl : i < (bl s).length := by rw [bl_length]; exact h
 refine ⟨(bl s)[i], List.getElem?_eq_getElem hl, ?_, bl_lt s _ (List.getElem_mem hl)⟩
 unfold bt
 rw [dif_pos (by simpa using h)]
 simp [bl, ByteArray.getElem_eq_getElem_data]
theorem wrap_u64 {x : Int} (h0 : 0 ≤ x) (h1 : x < 18446744073709551616) : IntKind.u64.wrap x = x := by
 simp only [IntKind.wrap_u64]; omega
theorem wrap64_id {x : Int} (h0 : -9223372036854775808 ≤ x) (h1 : x ≤ 9223372036854775807) : wrap64 x = x := by
 unfold wrap64; omega
end Go.Proofs.Ytoogchgoiciggaa.Pure

set_option linter.unusedVariables false
set_option linter.unusedSimpArgs false
namespace Go.Proofs.Ytoogchgoiciggaa.Pure
open Go.RowKit Go.Proofs.Ytoogchgoiciggaa.Q Go.Proofs.YtoogchgoiciggaaW.PrintWords Go.Proofs.YtoogchgoiciggaaW.PrintLast Go.Proofs.YtoogchgoiciggaaW.PrintMore Go.Proofs.Ytoogchgoiciggaa.Plain
theorem i64_of {x : Int} (h : (Lit.int .i64 x).wf = true) : -9223372036854775808 ≤ x ∧ x ≤ 9223372036854775807 := by
 have h : IntKind.i64.min ≤ x ∧ x ≤ IntKind.i64.max := by simpa only [Lit.wf, Bool.and_eq_true, decide_eq_true_eq] using h
 exact h
theorem u64_of {x : Int} (h : (Lit.int .u64 x).wf = true) : 0 ≤ x ∧ x ≤ 18446744073709551615 := by
 have h : IntKind.u64.min ≤ x ∧ x ≤ IntKind.u64.max := by simpa only [Lit.wf, Bool.and_eq_true, decide_eq_true_eq] using h
 exact h
def own (a b c d e : Int) : Int := if e = 1 then a else if e = 2 then b else if e = 3 then c else if e = 4 then d else 0
def okS (a b c d e : Int) : Prop := (a ≤ 1152921504606846976 ∧ b ≤ 1152921504606846976 ∧ c ≤ 1152921504606846976 ∧ d ≤ 1152921504606846976) ∧ 0 < own a b c d e
theorem okS_dc {a b c d e : Int} (h : okS a b c d e) : 1 ≤ e ∧ e ≤ 4 := by
 have h := h.2
 unfold own at h
 by_cases h1 : e = 1
 ·omega
 by_cases h2 : e = 2
 ·omega
 by_cases h3 : e = 3
 ·omega
 by_cases h4 : e = 4
 ·omega
 rw [if_neg h1, if_neg h2, if_neg h3, if_neg h4] at h
 omega
theorem mark_loop (v0 v1 v2 v3 d D : Int) (k : Nat) : tenementlaw08_Mark_mark.l0 (k + 4) 0 v0 v1 v2 v3 d true 0 0 0 0 D =
  (if D = 1 then some (IntKind.u64.wrap (1 + Int.tmod v0 4), Int.tmod v1 4, Int.tmod v2 4, 0, D) else if D = 2 then some (Int.tmod v0 4, IntKind.u64.wrap (1 + Int.tmod v1 4), Int.tmod v2 4, 0, D) else
     if D = 3 then some (Int.tmod v0 4, Int.tmod v1 4, IntKind.u64.wrap (1 + Int.tmod v2 4), 0, D) else if D = 4 then some (Int.tmod v0 4, Int.tmod v1 4, Int.tmod v2 4, IntKind.u64.wrap (1 + 0), D) else none) := by
 rw [tenementlaw08_Mark_mark.l0, if_pos (by omega), if_pos rfl, show wrap64 (0 + 1) = 1 from wrap64_id (by omega) (by omega)]
 rw [tenementlaw08_Mark_mark.l0, if_pos (by omega), if_neg (by omega), if_pos rfl, show wrap64 (1 + 1) = 2 from wrap64_id (by omega) (by omega)]
 rw [tenementlaw08_Mark_mark.l0, if_pos (by omega), if_neg (by omega), if_neg (by omega), if_pos rfl, show wrap64 (2 + 1) = 3 from wrap64_id (by omega) (by omega)]
 rw [tenementlaw08_Mark_mark.l0, if_neg (by omega)]
theorem mark_own {v0 v1 v2 v3 d : Int} (h0 : (Lit.int .u64 v0).wf = true) (h1 : (Lit.int .u64 v1).wf = true) (h2 : (Lit.int .u64 v2).wf = true) {k : Nat} (hk : 4 ≤ k) :
  ∃ n0 n1 n2 n3 dc : Nat, tenementlaw08_Mark_mark.f k v0 v1 v2 v3 d true = some ((n0 : Int), (n1 : Int), (n2 : Int), (n3 : Int), (dc : Int)) ∧ (n0 ≤ 4 ∧ n1 ≤ 4 ∧ n2 ≤ 4 ∧ n3 ≤ 4) ∧ 1 ≤ dc ∧ dc ≤ 3 ∧ okS n0 n1 n2 n3 dc := by
 have h0 := u64_of h0
 have h1 := u64_of h1
 have h2 := u64_of h2
 obtain ⟨k, rfl⟩ : ∃ m, k = m + 4 := ⟨k - 4, by omega⟩
 unfold tenementlaw08_Mark_mark.f
 rw [if_pos rfl]
 have hw : 0 ≤ IntKind.u64.wrap d := by rw [IntKind.wrap_u64]; omega
 have hD : wrap64 (1 + (wrap64 (Int.tmod (IntKind.u64.wrap d) 3))) = 1 + (IntKind.u64.wrap d) % 3 := by
  rw [Int.tmod_eq_emod_of_nonneg hw, wrap64_id (x := (IntKind.u64.wrap d) % 3) (by omega) (by omega), wrap64_id (by omega) (by omega)]
 rw [hD, mark_loop, Int.tmod_eq_emod_of_nonneg h0.1, Int.tmod_eq_emod_of_nonneg h1.1, Int.tmod_eq_emod_of_nonneg h2.1, wrap_u64 (x := 1 + v0 % 4) (by omega) (by omega), wrap_u64 (x := 1 + v1 % 4) (by omega) (by omega), wrap_u64 (x := 1 + v2 % 4) (by omega) (by omega)]
 generalize IntKind.u64.wrap d = q at hw ⊢
 clear hD
 have c : q % 3 = 0 ∨ q % 3 = 1 ∨ q % 3 = 2 := by omega
 rcases c with c | c | c
 ·rw [c, if_pos (by omega)]
  refine ⟨(1 + v0 % 4).toNat, (v1 % 4).toNat, (v2 % 4).toNat, 0, 1, by rw [Int.toNat_of_nonneg (by omega), Int.toNat_of_nonneg (by omega), Int.toNat_of_nonneg (by omega)]; rfl, by omega, by omega, by omega, by omega, ?_⟩
  unfold own
  rw [if_pos (by omega)]
  omega
 ·rw [c, if_neg (by omega), if_pos (by omega)]
  refine ⟨(v0 % 4).toNat, (1 + v1 % 4).toNat, (v2 % 4).toNat, 0, 2, by rw [Int.toNat_of_nonneg (by omega), Int.toNat_of_nonneg (by omega), Int.toNat_of_nonneg (by omega)]; rfl, by omega, by omega, by omega, by omega, ?_⟩
  unfold own
  rw [if_neg (by omega), if_pos (by omega)]
  omega
 ·rw [c, if_neg (by omega), if_neg (by omega), if_pos (by omega)]
  refine ⟨(v0 % 4).toNat, (v1 % 4).toNat, (1 + v2 % 4).toNat, 0, 3, by rw [Int.toNat_of_nonneg (by omega), Int.toNat_of_nonneg (by omega), Int.toNat_of_nonneg (by omega)]; rfl, by omega, by omega, by omega, by omega, ?_⟩
  unfold own
  rw [if_neg (by omega), if_neg (by omega), if_pos (by omega)]
  omega
theorem u8_or_128 : ∀ m : Nat, m < 256 → Go.bits .or .u8 (m : Int) 128 = ((m % 128 + 128 : Nat) : Int) := by
 intro m hm
 have h : ∀ m : Fin 256, (m.val ||| 128) = m.val % 128 + 128 := by decide +kernel
 have h2 := u8_or_nat m 128 hm (by omega)
 rw [show ((128 : Nat) : Int) = 128 from rfl] at h2
 rw [h2, h ⟨m, hm⟩]
theorem u8_and_127 : ∀ m : Nat, m < 256 → Go.bits .and .u8 (m : Int) 127 = ((m % 128 : Nat) : Int) := by
 intro m hm
 have h : ∀ m : Fin 256, (m.val &&& 127) = m.val % 128 := by decide +kernel
 have h2 := u8_and_nat m 127 hm (by omega)
 rw [show ((127 : Nat) : Int) = 127 from rfl] at h2
 rw [h2, h ⟨m, hm⟩]
theorem vary_tells (n : Nat) : ∀ (k : Nat) (acc : List Nat), (vary n).length < k → acc.length + (vary n).length ≤ 140737488355328 →
  pack_Vary.l0 k (n : Int) (NL acc) = some (strOfNums (NL (acc ++ vary n))) := by
 induction n using Nat.strongRecOn with
 | _ n ih =>
  intro k acc hk hl
  obtain ⟨k, rfl⟩ : ∃ m, k = m + 1 := ⟨k - 1, by omega⟩
  simp only [pack_Vary.l0]
  have hlen : (NL acc).length = acc.length := by simp [NL]
  by_cases h : n < 128
  ·rw [vary_small h] at hl ⊢
   rw [if_neg (by omega), if_pos (by rw [hlen]; simp at hl; omega)]
   rw [show (n : Int) % 256 = (n : Int) by omega]
   simp [NL]
  ·rw [vary_big h] at hl hk ⊢
   simp only [List.length_cons] at hl hk
   rw [if_pos (by omega), if_pos (by rw [hlen]; omega)]
   have e1 : (n : Int) / 128 = ((n / 128 : Nat) : Int) := by omega
   have e2 : (n : Int) % 256 = ((n % 256 : Nat) : Int) := by omega
   rw [e1, e2, u8_or_128 _ (by omega)]
   have e3 : NL acc ++ [((n % 256 % 128 + 128 : Nat) : Int)] = NL (acc ++ [n % 128 + 128]) := by
    rw [show n % 256 % 128 = n % 128 by omega]; simp [NL]
   rw [e3, ih (n / 128) (by omega) k _ (by omega) (by simp; omega)]
   simp
def vs (n : Nat) : ByteArray := strOfNums (NL (vary n))
theorem bl_vs (n : Nat) : bl (vs n) = vary n := bl_str _ (vary_lt n)
theorem vs_size (n : Nat) : (vs n).size = (vary n).length := by rw [← bl_length, bl_vs]
theorem Vary_f {n k : Nat} (h : n < 18446744073709551616) (hk : 11 ≤ k) : pack_Vary.f k (n : Int) = some (vs n) := by
 have h1 := vary_len_ten h
 have := vary_tells n k [] (by omega) (by simp; omega)
 exact this
inductive VaryRes (s : ByteArray) : Int × ByteArray × Bool → Prop
 | good (n : Nat) (rest : ByteArray) (hn : n < 18446744073709551616) (hs : bl s = vary n ++ bl rest) : VaryRes s ((n : Int), rest, false)
 | bad (h : ∀ n, n < 18446744073709551616 → ∀ r, bl s ≠ vary n ++ r) : VaryRes s (0, ⟨#[]⟩, true)
theorem VaryRes.unique {s : ByteArray} {a b : Int × ByteArray × Bool} (ha : VaryRes s a) (hb : VaryRes s b) : a = b := by
 cases ha with
 | good n r hn hs =>
  cases hb with
  | good m q hm ht =>
   obtain ⟨rfl, e⟩ := vary_prefix _ _ _ _ (hs.symm.trans ht)
   rw [bl_inj e]
  | bad h => exact absurd hs (h n hn _)
 | bad h =>
  cases hb with
  | good m q hm ht => exact absurd ht (h m hm _)
  | bad h => rfl
theorem acc_or (n i : Nat) (hn : n < 18446744073709551616) (hi : i < (vary n).length) :
  Go.bits .or .u64 ((n % 128 ^ i : Nat) : Int) (shl .u64 (IntKind.u64.wrap ((n / 128 ^ i % 128 : Nat) : Int)) (7 * (i : Int))) = ((n % 128 ^ (i + 1) : Nat) : Int) := by
 have h10 := vary_len_ten hn
 have hle : n % 128 ^ (i + 1) = n % 128 ^ i + 128 ^ i * (n / 128 ^ i % 128) := by rw [Nat.pow_succ, Nat.mod_mul]
 have hlt : n % 128 ^ (i + 1) ≤ n := Nat.mod_le _ _
 have hp : 0 < 128 ^ i := Nat.pow_pos (by omega)
 have hm : n % 128 ^ i < 128 ^ i := Nat.mod_lt _ hp
 have h7 : (128 : Nat) ^ i = 2 ^ (7 * i) := by rw [Nat.pow_mul]
 generalize hg : n / 128 ^ i % 128 = g at *
 have hg' : g < 128 := by omega
 generalize hc : n % 128 ^ i = c at *
 have hprod : 128 ^ i * g < 18446744073709551616 := by omega
 have hw : IntKind.u64.wrap (g : Int) = (g : Int) := wrap_u64 (by omega) (by omega)
 have hs : shl .u64 (g : Int) (7 * (i : Int)) = ((128 ^ i * g : Nat) : Int) := by
  unfold shl
  rw [show (7 * (i : Int)).toNat = 7 * i by omega, Nat.min_eq_left (by show 7 * i ≤ 64; omega)]
  have e : (g : Int) * 2 ^ (7 * i) = ((128 ^ i * g : Nat) : Int) := by rw [h7, Int.natCast_mul, Int.mul_comm]; simp
  rw [e, wrap_u64 (by omega) (by omega)]
 have hcn : c < 18446744073709551616 := by omega
 rw [hw, hs, u64_or_nat _ _ hcn hprod, hle]
 congr 1
 rw [h7] at hm ⊢
 rw [Nat.add_comm, Nat.two_pow_add_eq_or_of_lt hm, Nat.or_comm]
theorem u64_or_range (a b : Int) (h1 : 0 ≤ a) (h2 : a < 18446744073709551616) (h3 : 0 ≤ b) (h4 : b < 18446744073709551616) : 0 ≤ Go.bits .or .u64 a b ∧ Go.bits .or .u64 a b < 18446744073709551616 := by
 rw [u64_or a b h1 h2 h3 h4]
 have : a.toNat ||| b.toNat < 2 ^ 64 := Nat.or_lt_two_pow (by omega) (by omega)
 omega
theorem shl_range (x y : Int) : 0 ≤ shl .u64 x y ∧ shl .u64 x y < 18446744073709551616 := by
 unfold shl; simp only [IntKind.wrap_u64]; omega
theorem mn_lt {i n : Nat} (h : i < min n 10) : (i : Int) < mn (n : Int) 10 := by unfold mn; split <;> omega
theorem mn_ge {i n : Nat} (h : ¬ i < min n 10) : ¬ (i : Int) < mn (n : Int) 10 := by unfold mn; split <;> omega
theorem wrap_seven {i : Nat} (h : i < 10) : wrap64 (7 * (i : Int)) = 7 * (i : Int) := wrap64_id (by omega) (by omega)
theorem wrap_succ {i : Nat} (h : i < 10) : wrap64 ((i : Int) + 1) = ((i + 1 : Nat) : Int) := by rw [wrap64_id (by omega) (by omega)]; omega
theorem varyR_loop (s : ByteArray) (b : Bool) (hz : s.size ≤ 9223372036854775807) (d : Nat) : ∀ (k i : Nat) (x : Int), i + d = min s.size 10 → 0 ≤ x → x < 18446744073709551616 → d + 12 ≤ k →
  (∀ j, j < i → ∃ c, (bl s)[j]? = some c ∧ 128 ≤ c) →
  (∀ n, n < 18446744073709551616 → ∀ r, bl s = vary n ++ r → i < (vary n).length ∧ x = ((n % 128 ^ i : Nat) : Int)) →
  ∃ r, pack_Reader_Vary.l0 k x (mn (s.size : Int) 10) (i : Int) s b = some r ∧ VaryRes s r := by
 induction d with
 | zero =>
  intro k i x hi h0 h1 hk hall hn
  obtain ⟨k, rfl⟩ : ∃ m, k = m + 1 := ⟨k - 1, by omega⟩
  refine ⟨(0, ⟨#[]⟩, true), ?_, .bad fun n hn' r hs => ?_⟩
  ·simp only [pack_Reader_Vary.l0]
   rw [if_neg (mn_ge (by omega))]
   rfl
  ·have h2 := (hn n hn' r hs).1
   have h3 := vary_len_ten hn'
   have h4 : (vary n).length ≤ s.size := by rw [← bl_length, hs]; simp
   omega
 | succ d ih =>
  intro k i x hi h0 h1 hk hall hn
  obtain ⟨k, rfl⟩ : ∃ m, k = m + 1 := ⟨k - 1, by omega⟩
  have hlt : i < s.size := by omega
  have hi10 : i < 10 := by omega
  obtain ⟨c, hc, hbt, hc256⟩ := bt_bl s i hlt
  simp only [pack_Reader_Vary.l0]
  rw [if_pos (mn_lt (by omega)), if_pos (Int.natCast_nonneg i), if_pos (Int.ofNat_lt.2 hlt), hbt, wrap_seven hi10, if_pos (Int.mul_nonneg (by decide) (Int.natCast_nonneg i)), wrap_succ hi10, u8_and_127 _ hc256]
  clear hbt
  obtain ⟨G, hG⟩ : ∃ G, G = Go.bits .or .u64 x (shl .u64 (IntKind.u64.wrap ((c % 128 : Nat) : Int)) (7 * (i : Int))) := ⟨_, rfl⟩
  have hGr : 0 ≤ G ∧ G < 18446744073709551616 := by
   rw [hG]
   exact u64_or_range x _ h0 h1 (shl_range _ _).1 (shl_range _ _).2
  have hnext : ∀ n, n < 18446744073709551616 → ∀ r, bl s = vary n ++ r → c % 128 = n / 128 ^ i % 128 ∧ (128 ≤ c ↔ i + 1 < (vary n).length) ∧ G = ((n % 128 ^ (i + 1) : Nat) : Int) := by
   intro n hn' r hs
   obtain ⟨g1, g2⟩ := hn n hn' r hs
   have e : (bl s)[i]? = (vary n)[i]? := by rw [hs, List.getElem?_append_left g1]
   rw [hc, vary_get i n g1] at e
   have e := Option.some.inj e
   have e2 : c % 128 = n / 128 ^ i % 128 := by clear hG; rw [e]; split <;> omega
   refine ⟨e2, ?_, ?_⟩
   ·clear hG; rw [e]; split <;> omega
   ·rw [hG, e2, g2]; exact acc_or n i hn' g1
  rw [← hG]
  clear hG
  by_cases h128 : 128 ≤ c
  ·rw [if_pos (show ((c : Nat) : Int) ≥ 128 by omega)]
   refine ih k (i + 1) _ (by omega) hGr.1 hGr.2 (by omega) ?_ ?_
   ·intro j hj
    by_cases hji : j < i
    ·exact hall j hji
    ·obtain rfl : j = i := by omega
     exact ⟨c, hc, h128⟩
   ·intro n hn' r hs
    obtain ⟨_, g2, g3⟩ := hnext n hn' r hs
    exact ⟨g2.1 h128, g3⟩
  ·rw [if_neg (show ¬ ((c : Nat) : Int) ≥ 128 by omega), if_pos (show (0 : Int) ≤ ((i + 1 : Nat) : Int) by omega), if_pos (show ((i + 1 : Nat) : Int) ≤ (s.size : Int) by omega)]
   obtain ⟨m, rfl⟩ := Int.eq_ofNat_of_zero_le hGr.1
   rw [Vary_f (by omega) (by omega)]
   simp only [Option.bind_some]
   rw [show (((i + 1 : Nat) : Int)).toNat = i + 1 by omega]
   by_cases he : (s.extract 0 (i + 1)).toList = (vs m).toList
   ·rw [if_pos he]
    refine ⟨_, rfl, .good m _ (by omega) ?_⟩
    have e1 : bl (s.extract 0 (i + 1)) = vary m := by rw [toList_iff.1 he, bl_vs]
    rw [bl_extract, List.drop_zero] at e1
    rw [← e1, bl_drop, List.take_append_drop]
   ·rw [if_neg he]
    refine ⟨_, rfl, .bad fun n hn' r hs => he ?_⟩
    obtain ⟨g1, g2, g3⟩ := hnext n hn' r hs
    have g4 := (hn n hn' r hs).1
    have hl : (vary n).length = i + 1 := by omega
    have hnm : n % 128 ^ (i + 1) = n := Nat.mod_eq_of_lt (by
     rcases Nat.lt_or_ge n (128 ^ (i + 1)) with h | h
     ·exact h
     ·have := vary_len_gt (i + 1) n h; omega)
    rw [hnm] at g3
    have : m = n := by omega
    subst this
    rw [toList_iff]
    apply bl_inj
    rw [bl_vs, bl_extract, List.drop_zero, hs, ← hl, List.take_left]
theorem ReaderVary_f (s : ByteArray) (b : Bool) (hz : s.size ≤ 9223372036854775807) {k : Nat} (hk : 22 ≤ k) :
  ∃ r, pack_Reader_Vary.f k s b = some r ∧ (b = false → VaryRes s r) ∧ (b = true → r = (0, ⟨#[]⟩, true)) := by
 unfold pack_Reader_Vary.f
 cases b with
 | true => exact ⟨_, rfl, (fun h => by cases h), (fun _ => rfl)⟩
 | false =>
  obtain ⟨r, h1, h2⟩ := varyR_loop s false hz (min s.size 10) k 0 0 (by omega) (by omega) (by omega) (by omega) (fun j hj => by omega) (fun n _ r _ => ⟨vary_pos n, by simp [Nat.mod_one]⟩)
  exact ⟨r, by rw [if_neg (by simp)]; exact h1, (fun _ => h2), (fun h => by cases h)⟩
theorem ReaderVary_good {s : ByteArray} {n : Nat} {rest : ByteArray} (hz : s.size ≤ 9223372036854775807) (hn : n < 18446744073709551616) (hs : bl s = vary n ++ bl rest) {k : Nat} (hk : 22 ≤ k) :
  pack_Reader_Vary.f k s false = some ((n : Int), rest, false) := by
 obtain ⟨r, h1, h2, _⟩ := ReaderVary_f s false hz hk
 rw [h1, VaryRes.unique (h2 rfl) (.good n rest hn hs)]
theorem ReaderVary_true {s : ByteArray} (hz : s.size ≤ 9223372036854775807) {k : Nat} (hk : 22 ≤ k) : pack_Reader_Vary.f k s true = some (0, ⟨#[]⟩, true) := by
 obtain ⟨r, h1, _, h2⟩ := ReaderVary_f s true hz hk
 rw [h1, h2 rfl]
theorem vary_step {s : ByteArray} {b : Bool} (hz : s.size ≤ 9223372036854775807) {k : Nat} (hk : 22 ≤ k) :
  ∃ v t c, pack_Reader_Vary.f k s b = some (v, t, c) ∧ t.size ≤ s.size ∧ (c = false → b = false ∧ ∃ n, n < 18446744073709551616 ∧ v = (n : Nat) ∧ bl s = vary n ++ bl t) := by
 cases b with
 | true => exact ⟨_, _, _, ReaderVary_true hz hk, Nat.zero_le _, fun h => absurd h (by simp)⟩
 | false =>
  obtain ⟨r, h1, h2, _⟩ := ReaderVary_f s false hz hk
  cases h2 rfl with
  | good n rest hn hs =>
   refine ⟨_, _, _, h1, ?_, fun _ => ⟨rfl, n, hn, rfl, hs⟩⟩
   rw [← bl_length, ← bl_length, hs]; simp
  | bad h => exact ⟨_, _, _, h1, Nat.zero_le _, fun h => absurd h (by simp)⟩
theorem vright_f (a b c d : Int) : vec_Right.f a b c d = some (decide (a ≤ 1152921504606846976 ∧ b ≤ 1152921504606846976 ∧ c ≤ 1152921504606846976 ∧ d ≤ 1152921504606846976)) := by
 have h : ∀ x : Int, (mx x 1152921504606846976 == (1152921504606846976 : Int)) = decide (x ≤ 1152921504606846976) := by
  intro x
  rw [Bool.eq_iff_iff, beq_iff_eq, decide_eq_true_eq]
  unfold mx
  split <;> omega
 unfold vec_Right.f vec_Leq.f vec_Join.f
 simp only [Option.bind_some, h]
 simp only [Bool.decide_and]
theorem vput_f {a b c d : Nat} (ha : a < 18446744073709551616) (hb : b < 18446744073709551616) (hc : c < 18446744073709551616) (hd : d < 18446744073709551616) {k : Nat} (hk : 11 ≤ k) :
  vec_Put.f k a b c d = some (vs a ++ vs b ++ vs c ++ vs d) := by
 have h1 := vary_len_ten ha
 have h2 := vary_len_ten hb
 have h3 := vary_len_ten hc
 have h4 := vary_len_ten hd
 unfold vec_Put.f
 rw [Vary_f ha hk, Vary_f hb hk, Vary_f hc hk, Vary_f hd hk]
 simp only [Option.bind_some]
 rw [if_pos (by rw [vs_size, vs_size, vs_size, vs_size]; omega)]
theorem vget_step {s : ByteArray} {b : Bool} (hz : s.size ≤ 9223372036854775807) {k : Nat} (hk : 22 ≤ k) :
  ∃ v0 v1 v2 v3 t c, vec_Get.f k s b = some (v0, v1, v2, v3, t, c) ∧ t.size ≤ s.size ∧ (c = false → b = false ∧ ∃ n0 n1 n2 n3 : Nat, (n0 ≤ 1152921504606846976 ∧ n1 ≤ 1152921504606846976 ∧ n2 ≤ 1152921504606846976 ∧ n3 ≤ 1152921504606846976) ∧
   v0 = (n0 : Int) ∧ v1 = (n1 : Int) ∧ v2 = (n2 : Int) ∧ v3 = (n3 : Int) ∧ bl s = vary n0 ++ (vary n1 ++ (vary n2 ++ (vary n3 ++ bl t)))) := by
 obtain ⟨v0, t0, c0, e0, z0, h0⟩ := vary_step (s := s) (b := b) hz hk
 obtain ⟨v1, t1, c1, e1, z1, h1⟩ := vary_step (s := t0) (b := c0) (by omega) hk
 obtain ⟨v2, t2, c2, e2, z2, h2⟩ := vary_step (s := t1) (b := c1) (by omega) hk
 obtain ⟨v3, t3, c3, e3, z3, h3⟩ := vary_step (s := t2) (b := c2) (by omega) hk
 unfold vec_Get.f
 simp only [e0, e1, e2, e3, Option.bind_some, vright_f]
 cases c3 with
 | true => rw [if_pos rfl]; exact ⟨_, _, _, _, _, _, rfl, Nat.zero_le _, fun h => absurd h (by simp)⟩
 | false =>
  rw [if_neg (by simp)]
  obtain ⟨rfl, n3, l3, rfl, g3⟩ := h3 rfl
  obtain ⟨rfl, n2, l2, rfl, g2⟩ := h2 rfl
  obtain ⟨rfl, n1, l1, rfl, g1⟩ := h1 rfl
  obtain ⟨rfl, n0, l0, rfl, g0⟩ := h0 rfl
  by_cases hr : ((n0 : Int) ≤ 1152921504606846976 ∧ (n1 : Int) ≤ 1152921504606846976 ∧ (n2 : Int) ≤ 1152921504606846976 ∧ (n3 : Int) ≤ 1152921504606846976)
  ·rw [if_pos (decide_eq_true hr)]
   refine ⟨_, _, _, _, _, _, rfl, by omega, fun _ => ⟨rfl, n0, n1, n2, n3, by omega, rfl, rfl, rfl, rfl, ?_⟩⟩
   rw [g0, g1, g2, g3]
  ·rw [if_neg (by simpa using hr)]
   exact ⟨_, _, _, _, _, _, rfl, Nat.zero_le _, fun h => absurd h (by simp)⟩
def rv (n0 n1 n2 n3 : Nat) : List Nat := vary n0 ++ (vary n1 ++ (vary n2 ++ vary n3))
def vv (a b c d : Nat) : ByteArray := vs a ++ vs b ++ vs c ++ vs d
theorem bl_vv (a b c d : Nat) : bl (vv a b c d) = rv a b c d := by
 unfold vv rv
 simp only [bl_append, bl_vs, List.append_assoc]
theorem vv_size {a b c d : Nat} (ha : a < 18446744073709551616) (hb : b < 18446744073709551616) (hc : c < 18446744073709551616) (hd : d < 18446744073709551616) : (vv a b c d).size ≤ 40 ∧ (vv a b c d).size ≠ 0 := by
 have h1 := vary_len_ten ha
 have h2 := vary_len_ten hb
 have h3 := vary_len_ten hc
 have h4 := vary_len_ten hd
 have p := vary_pos a
 rw [← bl_length, bl_vv]
 unfold rv
 simp only [List.length_append]
 omega
theorem vget_good {s rest : ByteArray} {n0 n1 n2 n3 : Nat} (hz : s.size ≤ 9223372036854775807) (hs : bl s = rv n0 n1 n2 n3 ++ bl rest)
  (hn : n0 ≤ 1152921504606846976 ∧ n1 ≤ 1152921504606846976 ∧ n2 ≤ 1152921504606846976 ∧ n3 ≤ 1152921504606846976) {k : Nat} (hk : 22 ≤ k) :
  vec_Get.f k s false = some ((n0 : Int), (n1 : Int), (n2 : Int), (n3 : Int), rest, false) := by
 have sub : ∀ l : List Nat, (∀ b ∈ l, b < 256) → ∃ t : ByteArray, bl t = l ∧ t.size = l.length := fun l hl => ⟨strOfNums (NL l), bl_str l hl, by rw [← bl_length, bl_str l hl]⟩
 have lv := fun n => vary_lt n
 have lr := bl_lt rest
 have mem : ∀ {p q : List Nat}, (∀ b ∈ p, b < 256) → (∀ b ∈ q, b < 256) → ∀ b ∈ p ++ q, b < 256 := fun hp hq b hb => (List.mem_append.1 hb).elim (hp b) (hq b)
 obtain ⟨t3, b3, z3⟩ := sub (vary n3 ++ bl rest) (mem (lv n3) lr)
 obtain ⟨t2, b2, z2⟩ := sub (vary n2 ++ (vary n3 ++ bl rest)) (mem (lv n2) (mem (lv n3) lr))
 obtain ⟨t1, b1, z1⟩ := sub (vary n1 ++ (vary n2 ++ (vary n3 ++ bl rest))) (mem (lv n1) (mem (lv n2) (mem (lv n3) lr)))
 have hl : s.size = (vary n0).length + ((vary n1).length + ((vary n2).length + ((vary n3).length + (bl rest).length))) := by
  rw [← bl_length, hs]; unfold rv
  simp only [List.length_append]; omega
 simp only [List.length_append] at z1 z2 z3
 have e3 : pack_Reader_Vary.f k s false = some ((n0 : Int), t1, false) := ReaderVary_good (by omega) (by omega) (by rw [hs, b1]; unfold rv; simp) hk
 have e4 : pack_Reader_Vary.f k t1 false = some ((n1 : Int), t2, false) := ReaderVary_good (by omega) (by omega) (by rw [b1, b2]) hk
 have e5 : pack_Reader_Vary.f k t2 false = some ((n2 : Int), t3, false) := ReaderVary_good (by omega) (by omega) (by rw [b2, b3]) hk
 have e6 : pack_Reader_Vary.f k t3 false = some ((n3 : Int), rest, false) := ReaderVary_good (by omega) (by omega) (by rw [b3]) hk
 unfold vec_Get.f
 simp only [e3, e4, e5, e6, Option.bind_some, vright_f]
 rw [if_neg (by simp), if_pos (decide_eq_true (by omega))]
theorem pow_small {n : Nat} (h : n ≤ 9223372036854775807) : n < 18446744073709551616 := by omega
theorem Text_f {s : ByteArray} (h : s.size + 10 ≤ 9223372036854775807) {k : Nat} (hk : 11 ≤ k) : pack_Text.f k s = some (vs s.size ++ s) := by
 unfold pack_Text.f
 have h10 := vary_len_ten (pow_small (show s.size ≤ 9223372036854775807 by omega))
 rw [if_pos (by omega), Vary_f (by omega) hk]
 simp only [Option.bind_some]
 rw [if_pos (by rw [vs_size]; omega)]
inductive TextRes (s : ByteArray) (most : Int) : ByteArray × ByteArray × Bool → Prop
 | good (t rest : ByteArray) (hs : bl s = vary t.size ++ bl t ++ bl rest) (hm : (t.size : Int) ≤ most) : TextRes s most (t, rest, false)
 | bad (h : ∀ t rest : ByteArray, (t.size : Int) ≤ most → bl s ≠ vary t.size ++ bl t ++ bl rest) : TextRes s most (⟨#[]⟩, ⟨#[]⟩, true)
theorem vary_text_inj {t u r q : ByteArray} (hz : t.size ≤ 9223372036854775807) (h : vary t.size ++ bl t ++ bl r = vary u.size ++ bl u ++ bl q) : t = u ∧ r = q := by
 rw [List.append_assoc, List.append_assoc] at h
 obtain ⟨e, h⟩ := vary_prefix _ _ _ _ h
 have hl : (bl t).length = (bl u).length := by rw [bl_length, bl_length, e]
 obtain ⟨e1, e2⟩ := List.append_inj h hl
 exact ⟨bl_inj e1, bl_inj e2⟩
theorem TextRes.unique {s : ByteArray} {most : Int} {a b : ByteArray × ByteArray × Bool} (hz : s.size ≤ 9223372036854775807) (ha : TextRes s most a) (hb : TextRes s most b) : a = b := by
 cases ha with
 | good t r hs hm =>
  have hl : t.size ≤ 9223372036854775807 := by
   have := congrArg List.length hs
   rw [bl_length, List.length_append, List.length_append, bl_length] at this
   omega
  cases hb with
  | good u q ht hm' =>
   obtain ⟨rfl, rfl⟩ := vary_text_inj hl (hs.symm.trans ht)
   rfl
  | bad h => exact absurd hs (h t r hm)
 | bad h =>
  cases hb with
  | good u q ht hm' => exact absurd ht (h u q hm')
  | bad h => rfl
theorem mn_cases (a b : Int) : mn a b ≤ a ∧ mn a b ≤ b ∧ (mn a b = a ∨ mn a b = b) := by unfold mn; split <;> omega
theorem ReaderText_f (s : ByteArray) (most : Int) (hz : s.size ≤ 9223372036854775807) {k : Nat} (hk : 22 ≤ k) : ∃ r, pack_Reader_Text.f k s false most = some r ∧ TextRes s most r := by
 unfold pack_Reader_Text.f
 obtain ⟨r, h1, h2, _⟩ := ReaderVary_f s false hz hk
 rw [h1]
 simp only [Option.bind_some]
 cases h2 rfl with
 | bad h =>
  refine ⟨(⟨#[]⟩, ⟨#[]⟩, true), rfl, .bad fun t rest hm hs => ?_⟩
  have hl : t.size ≤ 9223372036854775807 := by
   have := congrArg List.length hs
   rw [bl_length, List.length_append, List.length_append, bl_length] at this
   omega
  rw [List.append_assoc] at hs
  exact h t.size (by omega) _ hs
 | good n rest hn hs =>
  have hrs : rest.size ≤ s.size := by rw [← bl_length, ← bl_length, hs]; simp
  rw [if_neg (by simp)]
  dsimp only
  have none : (∀ u q : ByteArray, (u.size : Int) ≤ most → bl s = vary u.size ++ bl u ++ bl q → (n : Int) ≤ most ∧ n ≤ rest.size) := by
   intro u q hm ht
   rw [List.append_assoc] at ht
   obtain ⟨e, e2⟩ := vary_prefix _ _ _ _ (hs.symm.trans ht)
   have := congrArg List.length e2
   rw [List.length_append, bl_length, bl_length] at this
   omega
  by_cases c1 : most < 0
  ·rw [if_pos c1]
   exact ⟨_, rfl, .bad fun u q hm ht => by omega⟩
  ·rw [if_neg c1]
   obtain ⟨m1, m2, m3⟩ := mn_cases most (rest.size : Int)
   have hw : IntKind.u64.wrap (mn most (rest.size : Int)) = mn most (rest.size : Int) := wrap_u64 (by omega) (by omega)
   rw [hw]
   clear hw
   generalize mn most (rest.size : Int) = M at *
   by_cases c2 : (n : Int) > M
   ·rw [if_pos c2]
    refine ⟨_, rfl, .bad fun u q hm ht => ?_⟩
    have := none u q hm ht
    omega
   ·rw [if_neg c2, if_pos (by omega), if_pos (by omega)]
    refine ⟨_, rfl, .good _ _ ?_ ?_⟩
    ·rw [show ((n : Int)).toNat = n by omega]
     have e : (rest.extract 0 n).size = n := by simp; omega
     rw [e, hs, bl_take, bl_drop, List.append_assoc, List.take_append_drop]
    ·rw [show ((n : Int)).toNat = n by omega]
     have e : (rest.extract 0 n).size = n := by simp; omega
     rw [e]; omega
theorem ReaderText_true {s : ByteArray} {most : Int} (hz : s.size ≤ 9223372036854775807) {k : Nat} (hk : 22 ≤ k) : pack_Reader_Text.f k s true most = some (⟨#[]⟩, ⟨#[]⟩, true) := by
 unfold pack_Reader_Text.f
 rw [ReaderVary_true hz hk]
 rfl
theorem ReaderText_good {s t rest : ByteArray} {most : Int} (hz : s.size ≤ 9223372036854775807) (hs : bl s = vary t.size ++ bl t ++ bl rest) (hm : (t.size : Int) ≤ most) {k : Nat} (hk : 22 ≤ k) :
  pack_Reader_Text.f k s false most = some (t, rest, false) := by
 obtain ⟨r, h1, h2⟩ := ReaderText_f s most hz hk
 rw [h1, TextRes.unique hz h2 (.good t rest hs hm)]
def nb (n k : Nat) : ByteArray := strOfNums (NL (be k n))
theorem bl_nb (n k : Nat) : bl (nb n k) = be k n := bl_str _ (be_lt k n)
theorem nb_size (n k : Nat) : (nb n k).size = k := by rw [← bl_length, bl_nb, be_len]
theorem numL_be (n k : Nat) : numL (n : Int) k = NL (be k n) := by
 unfold numL NL
 have h : be k n = (List.range k).map fun j => n / 256 ^ (k - 1 - j) % 256 := by
  induction k with
  | zero => rfl
  | succ k ih =>
   rw [List.range_succ_eq_map, List.map_cons, List.map_map]
   simp only [be]
   congr 1
   rw [ih]
   apply List.map_congr_left
   intro j hj
   have := List.mem_range.1 hj
   simp only [Function.comp]
   rw [show k - 1 - j = k + 1 - 1 - (j + 1) by omega]
 rw [h, List.map_map]
 apply List.map_congr_left
 intro j hj
 simp only [Function.comp, Nat.pow_mul, Int.natCast_emod, Int.natCast_ediv]
 rfl
theorem Number_f (n : Nat) (k : Int) (h1 : 1 ≤ k) (h8 : k ≤ 8) : pack_Number.f (n : Int) k = some (nb n k.toNat) := by
 unfold pack_Number.f
 rw [if_neg (by omega), if_neg (by omega), numL_be]; rfl
theorem Number_none (x : Int) (k : Int) (h : k < 1 ∨ 8 < k) : pack_Number.f x k = some ⟨#[]⟩ := by
 unfold pack_Number.f
 by_cases h1 : k < 1
 ·rw [if_pos h1]
 ·rw [if_neg h1, if_pos (by omega)]
theorem rnum_bev (s : ByteArray) (k : Nat) (hk : k ≤ 8) (hs : k ≤ s.size) : rnum s k = ((bev ((bl s).take k) : Nat) : Int) := by
 induction k with
 | zero => rfl
 | succ k ih =>
  have ih := ih (by omega) (by omega)
  obtain ⟨c, hc, hbt, hc256⟩ := bt_bl s k (by omega)
  have hlt := bev_lt ((bl s).take k) (fun b hb => bl_lt s b (List.mem_of_mem_take hb))
  have hll : ((bl s).take k).length = k := by rw [List.length_take, bl_length]; omega
  rw [hll] at hlt
  have hp : 256 ^ k ≤ 256 ^ 7 := Nat.pow_le_pow_right (by omega) (by omega)
  simp only [rnum]
  rw [ih, hbt, List.take_add_one, hc]
  simp only [Option.toList]
  rw [bev_snoc]
  generalize bev ((bl s).take k) = v at *
  rw [wrap_u64 (by omega) (by omega), wrap_u64 (by omega) (by omega)]
  have e : (v : Int) * 256 = ((2 ^ 8 * v : Nat) : Int) := by omega
  rw [e, u64_or_nat _ _ (by omega) (by omega)]
  rw [Nat.mul_comm v 256]
  congr 1
  exact (Nat.two_pow_add_eq_or_of_lt (i := 8) (by omega) v).symm
theorem ReaderNumber_good {s : ByteArray} {k : Int} (h1 : 1 ≤ k) (h8 : k ≤ 8) (hs : k ≤ (s.size : Int)) (hz : s.size ≤ 9223372036854775807) :
  pack_Reader_Number.f s false k = some (((bev ((bl s).take k.toNat) : Nat) : Int), s.extract k.toNat s.size, false) := by
 unfold pack_Reader_Number.f
 rw [if_pos hz, if_neg (by simp), if_neg (show ¬ k < 1 by omega), if_neg (show ¬ 8 < k by omega), if_neg (show ¬ (s.size : Int) < k by omega), rnum_bev s k.toNat (by omega) (by omega)]
theorem ReaderNumber_bad {s : ByteArray} {b : Bool} {k : Int} (h : b = true ∨ k < 1 ∨ 8 < k ∨ (s.size : Int) < k) (hz : s.size ≤ 9223372036854775807) :
  pack_Reader_Number.f s b k = some (0, ⟨#[]⟩, true) := by
 unfold pack_Reader_Number.f
 rw [if_pos hz]
 cases b with
 | true => rw [if_pos rfl]
 | false =>
  rw [if_neg (by simp)]
  by_cases c1 : k < 1
  ·rw [if_pos c1]
  ·rw [if_neg c1]
   by_cases c2 : 8 < k
   ·rw [if_pos c2]
   ·rw [if_neg c2, if_pos (show (s.size : Int) < k by simp at h; omega)]
theorem Done_f (s : ByteArray) (b : Bool) : pack_Reader_Done.f s b = some (!b && decide (s = ⟨#[]⟩)) := by
 unfold pack_Reader_Done.f
 cases b with
 | true => rfl
 | false =>
  rw [if_neg (by simp)]
  congr 1
  rw [Bool.eq_iff_iff, beq_iff_eq]
  simp only [Bool.not_false, Bool.true_and, decide_eq_true_eq]
  exact ⟨fun h => toList_iff.1 (by rw [h, toList_data]), fun h => by rw [h, toList_data]⟩
theorem sN_f (a b c d e : Int) : stamp_Stamp_N.f a b c d e = some (own a b c d e) := rfl
theorem sright_true {a b c d e : Int} (h : okS a b c d e) : stamp_Right.f a b c d e = some true := by
 unfold stamp_Right.f
 rw [vright_f, Option.bind_some, if_pos (decide_eq_true h.1), sN_f, Option.bind_some, decide_eq_true h.2]
theorem sright_false {a b c d e : Int} (h : ¬ okS a b c d e) : stamp_Right.f a b c d e = some false := by
 unfold stamp_Right.f
 rw [vright_f, Option.bind_some]
 by_cases c1 : (a ≤ 1152921504606846976 ∧ b ≤ 1152921504606846976 ∧ c ≤ 1152921504606846976 ∧ d ≤ 1152921504606846976)
 ·rw [if_pos (decide_eq_true c1), sN_f, Option.bind_some, decide_eq_false (fun c2 => h ⟨c1, c2⟩)]
 ·rw [if_neg (by simpa using c1)]
def sp (dc n0 n1 n2 n3 : Nat) : ByteArray := nb dc 1 ++ vv n0 n1 n2 n3
theorem bl_sp (dc n0 n1 n2 n3 : Nat) : bl (sp dc n0 n1 n2 n3) = be 1 dc ++ rv n0 n1 n2 n3 := by
 unfold sp
 rw [bl_append, bl_nb, bl_vv]
theorem sp_size {n0 n1 n2 n3 : Nat} (dc : Nat) (h0 : n0 < 18446744073709551616) (h1 : n1 < 18446744073709551616) (h2 : n2 < 18446744073709551616) (h3 : n3 < 18446744073709551616) : (sp dc n0 n1 n2 n3).size ≤ 41 ∧ (sp dc n0 n1 n2 n3).size ≠ 0 := by
 have := vv_size h0 h1 h2 h3
 unfold sp
 rw [ByteArray.size_append, nb_size]
 omega
theorem sput_true {n0 n1 n2 n3 dc : Nat} (h : okS n0 n1 n2 n3 dc) {k : Nat} (hk : 11 ≤ k) : stamp_Put.f k n0 n1 n2 n3 dc = some (sp dc n0 n1 n2 n3, true) := by
 have hd := okS_dc h
 have hb := h.1
 have z := vv_size (a := n0) (b := n1) (c := n2) (d := n3) (by omega) (by omega) (by omega) (by omega)
 unfold stamp_Put.f
 rw [sright_true h, Option.bind_some, if_pos rfl, wrap_u64 (by omega) (by omega), Number_f dc 1 (by omega) (by omega), Option.bind_some, vput_f (by omega) (by omega) (by omega) (by omega) hk, Option.bind_some]
 show (if (nb dc 1).size + (vv n0 n1 n2 n3).size ≤ 9223372036854775807 then _ else _) = _
 rw [if_pos (by rw [nb_size]; omega)]
 rfl
theorem rvary_tells (n : Nat) : n < 18446744073709551616 → ∀ (k : Nat) (acc : List Nat), (vary n).length < k → acc.length + (vary n).length ≤ 140737488355328 →
  tenementref02_Vary.l0 k (n : Int) (NL acc) = some (strOfNums (NL (acc ++ vary n))) := by
 induction n using Nat.strongRecOn with
 | _ n ih =>
  intro hn k acc hk hl
  obtain ⟨k, rfl⟩ : ∃ m, k = m + 1 := ⟨k - 1, by omega⟩
  simp only [tenementref02_Vary.l0]
  have hlen : (NL acc).length = acc.length := by simp [NL]
  by_cases h : n < 128
  ·rw [vary_small h] at hl ⊢
   rw [if_neg (by omega), if_pos (by rw [hlen]; simp at hl; omega)]
   rw [show (n : Int) % 256 = (n : Int) by omega]
   simp [NL]
  ·rw [vary_big h] at hl hk ⊢
   simp only [List.length_cons] at hl hk
   rw [if_pos (by omega), if_pos (by rw [hlen]; omega)]
   have e1 : Int.tdiv (n : Int) 128 = ((n / 128 : Nat) : Int) := by rw [Int.tdiv_eq_ediv_of_nonneg (by omega)]; omega
   have e2 : Int.tmod (n : Int) 128 = ((n % 128 : Nat) : Int) := by rw [Int.tmod_eq_emod_of_nonneg (by omega)]; omega
   rw [e1, e2, wrap_u64 (by omega) (by omega), wrap_u64 (by omega) (by omega)]
   have e3 : NL acc ++ [(((n % 128 : Nat) : Int) + 128) % 256] = NL (acc ++ [n % 128 + 128]) := by
    rw [show (((n % 128 : Nat) : Int) + 128) % 256 = ((n % 128 + 128 : Nat) : Int) by omega]; simp [NL]
   rw [e3, ih (n / 128) (by omega) (by omega) k _ (by omega) (by simp; omega)]
   simp
theorem RVary_f {n k : Nat} (h : n < 18446744073709551616) (hk : 11 ≤ k) : tenementref02_Vary.f k (n : Int) = some (vs n) := by
 have h1 := vary_len_ten h
 have := rvary_tells n h k [] (by omega) (by simp; omega)
 exact this
theorem RText_f {s : ByteArray} (h : s.size + 10 ≤ 9223372036854775807) {k : Nat} (hk : 11 ≤ k) : tenementref02_Text.f k s = some (vs s.size ++ s) := by
 unfold tenementref02_Text.f
 have h10 := vary_len_ten (pow_small (show s.size ≤ 9223372036854775807 by omega))
 rw [if_pos (by omega), RVary_f (by omega) hk]
 simp only [Option.bind_some]
 rw [if_pos (by rw [vs_size]; omega)]
theorem be_take (K : Nat) (n : Nat) : ∀ i, i < K → (be K n)[i]? = some (n / 256 ^ (K - 1 - i) % 256) := by
 induction K with
 | zero => intro i hi; omega
 | succ K ih =>
  intro i hi
  simp only [be]
  cases i with
  | zero => simp
  | succ i =>
   rw [List.getElem?_cons_succ, ih i (by omega), show K + 1 - 1 - (i + 1) = K - 1 - i by omega]
theorem rput_loop (n : Nat) (hn : n < 18446744073709551616) (K : Nat) (h8 : K ≤ 8) (d : Nat) : ∀ (k i : Nat), i + d = K → d < k →
  tenementref02_Number.l0 k (n : Int) (NL ((be K n).take i)) ((d : Int) - 1) = some (strOfNums (NL (be K n))) := by
 induction d with
 | zero =>
  intro k i hi hk
  obtain ⟨k, rfl⟩ : ∃ m, k = m + 1 := ⟨k - 1, by omega⟩
  simp only [tenementref02_Number.l0]
  rw [if_neg (by omega), show i = K by omega, List.take_of_length_le (by rw [be_len]; exact Nat.le_refl _)]
 | succ d ih =>
  intro k i hi hk
  obtain ⟨k, rfl⟩ : ∃ m, k = m + 1 := ⟨k - 1, by omega⟩
  simp only [tenementref02_Number.l0]
  have e1 : ((d + 1 : Nat) : Int) - 1 = (d : Int) := by omega
  have hl : (NL ((be K n).take i)).length = i := by unfold NL; rw [List.length_map, List.length_take, be_len]; omega
  have e2 : wrap64 (8 * (d : Int)) = ((8 * d : Nat) : Int) := by rw [wrap64_id (by omega) (by omega)]; omega
  have e3 : wrap64 ((d : Int) - 1) = (d : Int) - 1 := wrap64_id (by omega) (by omega)
  have e4 : shr .u64 (n : Int) ((8 * d : Nat) : Int) % 256 = ((n / 256 ^ d % 256 : Nat) : Int) := by
   unfold shr
   rw [show (((8 * d : Nat) : Int)).toNat = 8 * d by omega, Nat.min_eq_left (by show 8 * d ≤ 64; omega)]
   rw [Int.pow_mul]
   simp only [Int.natCast_emod, Int.natCast_ediv, Int.natCast_pow]
   rfl
  have e5 : NL ((be K n).take i) ++ [((n / 256 ^ d % 256 : Nat) : Int)] = NL ((be K n).take (i + 1)) := by
   rw [List.take_add_one, be_take K n i (by omega), show K - 1 - i = d by omega]
   simp [NL]
  rw [e1, if_pos (by omega), e2, if_pos (by omega), if_pos (by rw [hl]; omega), e4, e5, e3]
  exact ih k (i + 1) (by omega) (by omega)
theorem put_same {n : Nat} (hn : n < 18446744073709551616) {K : Int} (hK : (Lit.int .i64 K).wf = true) {k : Nat} (hk : 34 ≤ k) :
  ∃ r, pack_Number.f (n : Int) K = some r ∧ tenementref02_Number.f k (n : Int) K = some r := by
 obtain ⟨k, rfl⟩ : ∃ m, k = m + 1 := ⟨k - 1, by omega⟩
 unfold tenementref02_Number.f
 simp only [tenementref02_Number.j0]
 by_cases c1 : K < 1
 ·rw [if_pos c1, if_pos trivial]; exact ⟨_, Number_none _ _ (Or.inl c1), rfl⟩
 ·rw [if_neg c1]
  by_cases c2 : K > 8
  ·rw [if_pos (decide_eq_true c2)]; exact ⟨_, Number_none _ _ (Or.inr c2), rfl⟩
  ·rw [if_neg (by simp; omega)]
   refine ⟨_, Number_f n K (by omega) (by omega), ?_⟩
   have := rput_loop n hn K.toNat (by omega) K.toNat k 0 (by omega) (by omega)
   rw [show ((K.toNat : Nat) : Int) = K by omega] at this
   rw [wrap64_id (by omega) (by omega)]
   exact this
theorem rput06_f {a b c d : Nat} (ha : a < 18446744073709551616) (hb : b < 18446744073709551616) (hc : c < 18446744073709551616) (hd : d < 18446744073709551616) {k : Nat} (hk : 11 ≤ k) :
  tenementref06_Put.f k a b c d = some (vs a ++ vs b ++ vs c ++ vs d) := by
 have h1 := vary_len_ten ha
 have h2 := vary_len_ten hb
 have h3 := vary_len_ten hc
 have h4 := vary_len_ten hd
 unfold tenementref06_Put.f
 rw [RVary_f ha hk, RVary_f hb hk, RVary_f hc hk, RVary_f hd hk]
 simp only [Option.bind_some]
 rw [if_pos (by rw [vs_size, vs_size]; omega), if_pos (by rw [ByteArray.size_append, vs_size, vs_size, vs_size]; omega), if_pos (by rw [ByteArray.size_append, ByteArray.size_append, vs_size, vs_size, vs_size, vs_size]; omega)]
theorem rright06_f {a b c d : Int} {k : Nat} (hk : 5 ≤ k) : tenementref06_Right.f k a b c d = some (decide (a ≤ 1152921504606846976 ∧ b ≤ 1152921504606846976 ∧ c ≤ 1152921504606846976 ∧ d ≤ 1152921504606846976)) := by
 obtain ⟨k, rfl⟩ : ∃ m, k = m + 5 := ⟨k - 5, by omega⟩
 unfold tenementref06_Right.f
 have no : ∀ {P : Prop} [Decidable P], ¬ P → (some false : Option Bool) = some (decide P) := fun h => by rw [decide_eq_false h]
 rw [tenementref06_Right.l0, if_pos (by omega), if_pos rfl, show wrap64 (0 + 1) = 1 from wrap64_id (by omega) (by omega)]
 by_cases ha : a > 1152921504606846976
 ·rw [if_pos ha]; exact no (by omega)
 rw [if_neg ha, tenementref06_Right.l0, if_pos (by omega), if_neg (by omega), if_pos rfl, show wrap64 (1 + 1) = 2 from wrap64_id (by omega) (by omega)]
 by_cases hb : b > 1152921504606846976
 ·rw [if_pos hb]; exact no (by omega)
 rw [if_neg hb, tenementref06_Right.l0, if_pos (by omega), if_neg (by omega), if_neg (by omega), if_pos rfl, show wrap64 (2 + 1) = 3 from wrap64_id (by omega) (by omega)]
 by_cases hc : c > 1152921504606846976
 ·rw [if_pos hc]; exact no (by omega)
 rw [if_neg hc, tenementref06_Right.l0, if_pos (by omega), if_neg (by omega), if_neg (by omega), if_neg (by omega), if_pos rfl, show wrap64 (3 + 1) = 4 from wrap64_id (by omega) (by omega)]
 by_cases hd : d > 1152921504606846976
 ·rw [if_pos hd]; exact no (by omega)
 rw [if_neg hd, tenementref06_Right.l0, if_neg (by omega), decide_eq_true (by omega)]
theorem rN_f (a b c d e : Int) : tenementref07_Stamp_N.f a b c d e = some (own a b c d e) := rfl
theorem rsright_true {a b c d e : Int} (h : okS a b c d e) {k : Nat} (hk : 5 ≤ k) : tenementref07_Right.f k a b c d e = some true := by
 unfold tenementref07_Right.f
 rw [rright06_f hk, Option.bind_some, if_pos (decide_eq_true h.1), rN_f, Option.bind_some, decide_eq_true (show own a b c d e ≥ 1 from h.2)]
theorem rsright_false {a b c d e : Int} (h : ¬ okS a b c d e) {k : Nat} (hk : 5 ≤ k) : tenementref07_Right.f k a b c d e = some false := by
 unfold tenementref07_Right.f
 rw [rright06_f hk, Option.bind_some]
 by_cases c1 : (a ≤ 1152921504606846976 ∧ b ≤ 1152921504606846976 ∧ c ≤ 1152921504606846976 ∧ d ≤ 1152921504606846976)
 ·rw [if_pos (decide_eq_true c1), rN_f, Option.bind_some, decide_eq_false (show ¬ own a b c d e ≥ 1 from fun c2 => h ⟨c1, c2⟩)]
 ·rw [if_neg (by simpa using c1)]
theorem sright_same (a b c d e : Int) {k : Nat} (hk : 5 ≤ k) : ∃ r, stamp_Right.f a b c d e = some r ∧ tenementref07_Right.f k a b c d e = some r := by
 by_cases h : okS a b c d e
 ·exact ⟨_, sright_true h, rsright_true h hk⟩
 ·exact ⟨_, sright_false h, rsright_false h hk⟩
theorem rsput_true {n0 n1 n2 n3 dc : Nat} (h : okS n0 n1 n2 n3 dc) {k : Nat} (hk : 34 ≤ k) : tenementref07_Put.f k n0 n1 n2 n3 dc = some (sp dc n0 n1 n2 n3, true) := by
 have hd := okS_dc h
 have hb := h.1
 have z := vv_size (a := n0) (b := n1) (c := n2) (d := n3) (by omega) (by omega) (by omega) (by omega)
 obtain ⟨r, q1, q2⟩ := put_same (n := dc) (K := 1) (by omega) (by decide) hk
 rw [Number_f dc 1 (by omega) (by omega)] at q1
 obtain rfl := Option.some.inj q1
 unfold tenementref07_Put.f
 rw [rsright_true h (by omega), Option.bind_some, if_pos rfl, wrap_u64 (by omega) (by omega), q2, Option.bind_some, rput06_f (by omega) (by omega) (by omega) (by omega) (by omega), Option.bind_some]
 show (if (nb dc 1).size + (vv n0 n1 n2 n3).size ≤ 9223372036854775807 then _ else _) = _
 rw [if_pos (by rw [nb_size]; omega)]
 rfl
theorem one_byte (x : Nat) : be 1 x = [x % 256] := by simp [be]
theorem bev_one (x : Nat) : bev [x] = x := by simp [bev]
theorem sget_step {s : ByteArray} {b : Bool} (hz : s.size ≤ 9223372036854775807) {k : Nat} (hk : 22 ≤ k) :
  ∃ v0 v1 v2 v3 v4 t c, stamp_Get.f k s b = some (v0, v1, v2, v3, v4, t, c) ∧ t.size ≤ s.size ∧
   (c = false → b = false ∧ ∃ n0 n1 n2 n3 dc : Nat, dc < 256 ∧ bl s = dc :: (rv n0 n1 n2 n3 ++ bl t) ∧ v0 = n0 ∧ v1 = n1 ∧ v2 = n2 ∧ v3 = n3 ∧ v4 = dc) ∧
   (c = true → v0 = 0 ∧ v1 = 0 ∧ v2 = 0 ∧ v3 = 0 ∧ v4 = 0) := by
 by_cases h : b = true ∨ (s.size : Int) < 1
 ·have e1 := ReaderNumber_bad (s := s) (b := b) (k := 1) (h.elim Or.inl (fun h => Or.inr (Or.inr (Or.inr h)))) hz
  obtain ⟨v0, v1, v2, v3, t, c, e2, z2, h2⟩ := vget_step (s := (⟨#[]⟩ : ByteArray)) (b := true) (by simp [ByteArray.size]) hk
  have hc : c = true := by cases c with | true => rfl | false => exact absurd (h2 rfl).1 (by simp)
  subst hc
  unfold stamp_Get.f
  rw [e1, Option.bind_some]
  simp only [e2, Option.bind_some]
  rw [if_pos trivial]
  exact ⟨_, _, _, _, _, _, _, rfl, Nat.zero_le _, fun h => absurd h (by simp), fun _ => ⟨rfl, rfl, rfl, rfl, rfl⟩⟩
 ·have hb : b = false := by cases b with | true => exact absurd (Or.inl rfl) h | false => rfl
  subst hb
  have hs : ¬ (s.size : Int) < 1 := fun c => h (Or.inr c)
  clear h
  have e1 := ReaderNumber_good (s := s) (k := 1) (by omega) (by omega) (by omega) hz
  have hd : bl (s.extract (1 : Int).toNat s.size) = (bl s).drop 1 := bl_drop s 1
  have hzd : (s.extract (1 : Int).toNat s.size).size ≤ s.size := by simp
  obtain ⟨x, l, hl⟩ : ∃ x l, bl s = x :: l := by
   cases hx : bl s with
   | nil => exact absurd (by rw [← bl_length, hx]; decide) hs
   | cons x l => exact ⟨x, l, rfl⟩
  have lx : x < 256 := bl_lt s x (by rw [hl]; simp)
  have ex : ((bev ((bl s).take (1 : Int).toNat) : Nat) : Int) = (x : Int) := by
   rw [hl]
   show ((bev [x] : Nat) : Int) = _
   rw [bev_one]
  rw [hl] at hd
  rw [ex] at e1
  generalize s.extract (1 : Int).toNat s.size = u at *
  obtain ⟨v0, v1, v2, v3, t, c, e2, z2, h2⟩ := vget_step (s := u) (b := false) (by omega) hk
  unfold stamp_Get.f
  rw [e1, Option.bind_some]
  simp only [e2, Option.bind_some]
  cases c with
  | true => rw [if_pos rfl]; exact ⟨_, _, _, _, _, _, _, rfl, Nat.zero_le _, fun h => absurd h (by simp), fun _ => ⟨rfl, rfl, rfl, rfl, rfl⟩⟩
  | false =>
   obtain ⟨_, n0, n1, n2, n3, ln, rfl, rfl, rfl, rfl, hq⟩ := h2 rfl
   rw [if_neg (by simp)]
   by_cases r : okS n0 n1 n2 n3 (wrap64 (x : Int))
   ·rw [sright_true r, Option.bind_some, if_pos rfl]
    refine ⟨_, _, _, _, _, _, _, rfl, by omega, fun _ => ⟨by first | rfl | trivial, n0, n1, n2, n3, x, lx, ?_, rfl, rfl, rfl, rfl, wrap64_id (by omega) (by omega)⟩, fun h => absurd h (by simp)⟩
    rw [hl]
    have hd : bl u = l := hd
    rw [← hd, hq]
    unfold rv
    simp
   ·rw [sright_false r, Option.bind_some, if_neg (by simp)]
    exact ⟨_, _, _, _, _, _, _, rfl, Nat.zero_le _, fun h => absurd h (by simp), fun _ => ⟨rfl, rfl, rfl, rfl, rfl⟩⟩
theorem sget_good {s rest : ByteArray} {n0 n1 n2 n3 dc : Nat} (hz : s.size ≤ 9223372036854775807) (hs : bl s = be 1 dc ++ rv n0 n1 n2 n3 ++ bl rest) (r : okS n0 n1 n2 n3 dc) {k : Nat} (hk : 22 ≤ k) :
  stamp_Get.f k s false = some ((n0 : Int), (n1 : Int), (n2 : Int), (n3 : Int), (dc : Int), rest, false) := by
 have hdc := okS_dc r
 have hb := r.1
 rw [one_byte, List.append_assoc, List.singleton_append, Nat.mod_eq_of_lt (by omega)] at hs
 obtain ⟨l, hl'⟩ : ∃ l, l = rv n0 n1 n2 n3 ++ bl rest := ⟨_, rfl⟩
 rw [← hl'] at hs
 have hl : s.size ≠ 0 := by rw [← bl_length, hs]; simp
 have e1 := ReaderNumber_good (s := s) (k := 1) (by omega) (by omega) (by omega) hz
 have hd : bl (s.extract (1 : Int).toNat s.size) = l := by
  rw [show (1 : Int).toNat = 1 from rfl, bl_drop, hs, List.drop_succ_cons, List.drop_zero]
 have hzd : (s.extract (1 : Int).toNat s.size).size ≤ s.size := by simp
 have ex : ((bev ((bl s).take (1 : Int).toNat) : Nat) : Int) = (dc : Int) := by
  rw [hs, show (1 : Int).toNat = 0 + 1 from rfl, List.take_succ_cons, List.take_zero, bev_one]
 rw [ex] at e1
 generalize s.extract (1 : Int).toNat s.size = u at *
 have e2 := vget_good (s := u) (rest := rest) (by omega) (hd.trans hl') (by omega) hk
 unfold stamp_Get.f
 rw [e1, Option.bind_some]
 show (vec_Get.f k u false).bind _ = _
 rw [e2, Option.bind_some]
 show (if false = true then _ else (stamp_Right.f (n0 : Int) n1 n2 n3 (wrap64 (dc : Int))).bind _) = _
 rw [if_neg (by simp), wrap64_id (by omega) (by omega), sright_true r, Option.bind_some, if_pos rfl]
theorem rvaryR_loop (s : ByteArray) (hz : s.size ≤ 9223372036854775807) (d : Nat) : ∀ (k i : Nat) (x : Int), i + d = min s.size 10 → 0 ≤ x → x < 18446744073709551616 → 2 * d + 14 ≤ k →
  (∀ j, j < i → ∃ c, (bl s)[j]? = some c ∧ 128 ≤ c) →
  (∀ n, n < 18446744073709551616 → ∀ r, bl s = vary n ++ r → i < (vary n).length ∧ x = ((n % 128 ^ i : Nat) : Int)) →
  ∃ r, tenementref02_Reader_Vary.l0 k x (i : Int) s false = some r ∧ VaryRes s r := by
 induction d with
 | zero =>
  intro k i x hi h0 h1 hk hall hn
  obtain ⟨k, rfl⟩ : ∃ m, k = m + 2 := ⟨k - 2, by omega⟩
  refine ⟨(0, ⟨#[]⟩, true), ?_, .bad fun n hn' r hs => ?_⟩
  ·simp only [tenementref02_Reader_Vary.l0]
   by_cases c : (i : Int) < (s.size : Int)
   ·rw [if_pos c, if_neg (by omega)]
    simp only [tenementref02_Reader_Vary.j1]
    rw [if_neg (by simp)]
   ·rw [if_neg c]
    simp only [tenementref02_Reader_Vary.j1]
    rw [if_neg (by simp)]
  ·have h2 := (hn n hn' r hs).1
   have h3 := vary_len_ten hn'
   have h4 : (vary n).length ≤ s.size := by rw [← bl_length, hs]; simp
   omega
 | succ d ih =>
  intro k i x hi h0 h1 hk hall hn
  obtain ⟨k, rfl⟩ : ∃ m, k = m + 2 := ⟨k - 2, by omega⟩
  have hlt : i < s.size := by omega
  have hi10 : i < 10 := by omega
  obtain ⟨c, hc, hbt, hc256⟩ := bt_bl s i hlt
  have hm : Int.tmod (c : Int) 128 = ((c % 128 : Nat) : Int) := by rw [Int.tmod_eq_emod_of_nonneg (by omega)]; omega
  simp only [tenementref02_Reader_Vary.l0]
  rw [if_pos (Int.ofNat_lt.2 hlt), if_pos (show (i : Int) < 10 by omega)]
  simp only [tenementref02_Reader_Vary.j1]
  rw [if_pos (show (!false) = true from rfl), if_pos (Int.natCast_nonneg i), if_pos (Int.ofNat_lt.2 hlt), hbt, wrap_seven hi10, if_pos (Int.mul_nonneg (by decide) (Int.natCast_nonneg i)), wrap_succ hi10, hm]
  clear hbt hm
  obtain ⟨G, hG⟩ : ∃ G, G = Go.bits .or .u64 x (shl .u64 (IntKind.u64.wrap ((c % 128 : Nat) : Int)) (7 * (i : Int))) := ⟨_, rfl⟩
  have hGr : 0 ≤ G ∧ G < 18446744073709551616 := by
   rw [hG]
   exact u64_or_range x _ h0 h1 (shl_range _ _).1 (shl_range _ _).2
  have hnext : ∀ n, n < 18446744073709551616 → ∀ r, bl s = vary n ++ r → c % 128 = n / 128 ^ i % 128 ∧ (128 ≤ c ↔ i + 1 < (vary n).length) ∧ G = ((n % 128 ^ (i + 1) : Nat) : Int) := by
   intro n hn' r hs
   obtain ⟨g1, g2⟩ := hn n hn' r hs
   have e : (bl s)[i]? = (vary n)[i]? := by rw [hs, List.getElem?_append_left g1]
   rw [hc, vary_get i n g1] at e
   have e := Option.some.inj e
   have e2 : c % 128 = n / 128 ^ i % 128 := by clear hG; rw [e]; split <;> omega
   refine ⟨e2, ?_, ?_⟩
   ·clear hG; rw [e]; split <;> omega
   ·rw [hG, e2, g2]; exact acc_or n i hn' g1
  rw [← hG]
  clear hG
  by_cases h128 : 128 ≤ c
  ·rw [if_neg (show ¬ ((c : Nat) : Int) < 128 by omega)]
   refine ih k (i + 1) _ (by omega) hGr.1 hGr.2 (by omega) ?_ ?_
   ·intro j hj
    by_cases hji : j < i
    ·exact hall j hji
    ·obtain rfl : j = i := by omega
     exact ⟨c, hc, h128⟩
   ·intro n hn' r hs
    obtain ⟨_, g2, g3⟩ := hnext n hn' r hs
    exact ⟨g2.1 h128, g3⟩
  ·rw [if_pos (show ((c : Nat) : Int) < 128 by omega)]
   obtain ⟨m, rfl⟩ := Int.eq_ofNat_of_zero_le hGr.1
   rw [RVary_f (by omega) (by omega)]
   simp only [Option.bind_some]
   rw [if_pos (show (0 : Int) ≤ ((i + 1 : Nat) : Int) by omega), if_pos (show ((i + 1 : Nat) : Int) ≤ (s.size : Int) by omega)]
   rw [show (((i + 1 : Nat) : Int)).toNat = i + 1 by omega]
   by_cases he : (vs m).toList = (s.extract 0 (i + 1)).toList
   ·rw [if_pos he]
    refine ⟨_, rfl, .good m _ (by omega) ?_⟩
    have e1 : bl (s.extract 0 (i + 1)) = vary m := by rw [← toList_iff.1 he, bl_vs]
    rw [bl_extract, List.drop_zero] at e1
    rw [← e1, bl_drop, List.take_append_drop]
   ·rw [if_neg he]
    refine ⟨_, rfl, .bad fun n hn' r hs => he ?_⟩
    obtain ⟨g1, g2, g3⟩ := hnext n hn' r hs
    have g4 := (hn n hn' r hs).1
    have hl : (vary n).length = i + 1 := by omega
    have hnm : n % 128 ^ (i + 1) = n := Nat.mod_eq_of_lt (by
     rcases Nat.lt_or_ge n (128 ^ (i + 1)) with h | h
     ·exact h
     ·have := vary_len_gt (i + 1) n h; omega)
    rw [hnm] at g3
    have : m = n := by omega
    subst this
    rw [toList_iff]
    apply bl_inj
    rw [bl_vs, bl_extract, List.drop_zero, hs, ← hl, List.take_left]
theorem RReaderVary_f (s : ByteArray) (b : Bool) (hz : s.size ≤ 9223372036854775807) {k : Nat} (hk : 34 ≤ k) :
  ∃ r, tenementref02_Reader_Vary.f k s b = some r ∧ (b = false → VaryRes s r) ∧ (b = true → r = (0, ⟨#[]⟩, true)) := by
 unfold tenementref02_Reader_Vary.f
 cases b with
 | true =>
  refine ⟨_, ?_, (fun h => by cases h), (fun _ => rfl)⟩
  obtain ⟨k, rfl⟩ : ∃ m, k = m + 2 := ⟨k - 2, by omega⟩
  unfold tenementref02_Reader_Vary.l0
  split
  ·split
   ·unfold tenementref02_Reader_Vary.j1; exact if_neg (by simp)
   ·unfold tenementref02_Reader_Vary.j1; exact if_neg (by simp)
  ·unfold tenementref02_Reader_Vary.j1; exact if_neg (by simp)
 | false =>
  obtain ⟨r, h1, h2⟩ := rvaryR_loop s hz (min s.size 10) k 0 0 (by omega) (by omega) (by omega) (by omega) (fun j hj => by omega) (fun n _ r _ => ⟨vary_pos n, by simp [Nat.mod_one]⟩)
  exact ⟨r, h1, (fun _ => h2), (fun h => by cases h)⟩
theorem vary_same {s : ByteArray} {b : Bool} (hz : s.size ≤ 9223372036854775807) {k : Nat} (hk : 34 ≤ k) :
  ∃ r, pack_Reader_Vary.f k s b = some r ∧ tenementref02_Reader_Vary.f k s b = some r ∧ r.2.1.size ≤ s.size ∧ (b = true → r = (0, ⟨#[]⟩, true)) ∧ (b = false → VaryRes s r) := by
 obtain ⟨r, h1, h2, h3⟩ := ReaderVary_f s b hz (show 22 ≤ k by omega)
 obtain ⟨q, g1, g2, g3⟩ := RReaderVary_f s b hz hk
 have e : q = r := by
  cases b with
  | true => rw [h3 rfl, g3 rfl]
  | false => exact VaryRes.unique (g2 rfl) (h2 rfl)
 subst e
 refine ⟨q, h1, g1, ?_, h3, h2⟩
 cases b with
 | true => rw [h3 rfl]; exact Nat.zero_le _
 | false =>
  cases h2 rfl with
  | good n rest hn hs => show rest.size ≤ s.size; rw [← bl_length, ← bl_length, hs]; simp
  | bad h => exact Nat.zero_le _
theorem text_same {s : ByteArray} {b : Bool} {most : Int} (hz : s.size ≤ 9223372036854775807) (hm : (Lit.int .i64 most).wf = true) {k : Nat} (hk : 34 ≤ k) :
  ∃ r, pack_Reader_Text.f k s b most = some r ∧ tenementref02_Reader_Text.f k s b most = some r ∧ r.2.1.size ≤ s.size := by
 have hm : -9223372036854775808 ≤ most ∧ most ≤ 9223372036854775807 := by
  have h : IntKind.i64.min ≤ most ∧ most ≤ IntKind.i64.max := by simpa only [Lit.wf, Bool.and_eq_true, decide_eq_true_eq] using hm
  exact h
 obtain ⟨r, h1, h2, h3, _, hv⟩ := vary_same (s := s) (b := b) hz hk
 unfold pack_Reader_Text.f tenementref02_Reader_Text.f
 rw [h1, h2]
 simp only [Option.bind_some]
 have hn : 0 ≤ r.1 := by
  cases b with
  | true => obtain rfl := ‹(true = true → r = (0, ⟨#[]⟩, true))› rfl; exact Int.le_refl _
  | false =>
   cases hv rfl with
   | good n rest hn hs => exact Int.natCast_nonneg n
   | bad h => exact Int.le_refl _
 clear h1 h2 hv
 obtain ⟨n, t, bd⟩ := r
 simp only at h3 hn ⊢
 by_cases c0 : bd = true
 ·rw [if_pos c0, if_pos c0]; exact ⟨_, rfl, rfl, Nat.zero_le _⟩
 ·rw [if_neg c0, if_neg c0]
  by_cases c1 : most < 0
  ·rw [if_pos c1, if_pos c1]; exact ⟨_, rfl, rfl, Nat.zero_le _⟩
  ·rw [if_neg c1, if_neg c1]
   obtain ⟨m1, m2, m3⟩ := mn_cases most (t.size : Int)
   have hw : IntKind.u64.wrap (mn most (t.size : Int)) = mn most (t.size : Int) := wrap_u64 (by omega) (by omega)
   have hw2 : IntKind.u64.wrap most = most := wrap_u64 (by omega) (by omega)
   rw [hw, hw2]
   clear hw hw2
   generalize mn most (t.size : Int) = M at *
   by_cases c2 : n > M
   ·rw [if_pos c2]
    refine ⟨_, rfl, ?_, Nat.zero_le _⟩
    by_cases c3 : n > most
    ·rw [if_pos c3]
    ·rw [if_neg c3, if_pos (by omega), if_pos (show n > (t.size : Int) by omega)]
   ·rw [if_neg c2, if_pos hn, if_pos (show n ≤ (t.size : Int) by omega)]
    refine ⟨_, rfl, ?_, ?_⟩
    ·rw [if_neg (show ¬ n > most by omega), if_pos (by omega), if_neg (show ¬ n > (t.size : Int) by omega)]
    ·simp; omega
theorem rnumR_loop (s : ByteArray) (b : Bool) (K : Int) (h8 : K ≤ 8) (hs : K ≤ (s.size : Int)) (hz : s.size ≤ 9223372036854775807) (d : Nat) : ∀ (k i : Nat), (i : Int) + d = K → d < k →
  tenementref02_Reader_Number.l0 k K ((bev ((bl s).take i) : Nat) : Int) (i : Int) s b = some (((bev ((bl s).take K.toNat) : Nat) : Int), s.extract K.toNat s.size, false) := by
 induction d with
 | zero =>
  intro k i hi hk
  obtain ⟨k, rfl⟩ : ∃ m, k = m + 1 := ⟨k - 1, by omega⟩
  simp only [tenementref02_Reader_Number.l0]
  rw [if_neg (by omega), if_pos (by omega), if_pos hs, show K.toNat = i by omega]
 | succ d ih =>
  intro k i hi hk
  obtain ⟨k, rfl⟩ : ∃ m, k = m + 1 := ⟨k - 1, by omega⟩
  have hlt : i < s.size := by omega
  have := rnum_bev s (i + 1) (by omega) (by omega)
  simp only [rnum] at this
  rw [rnum_bev s i (by omega) (by omega)] at this
  simp only [tenementref02_Reader_Number.l0]
  rw [if_pos (by omega), if_pos (Int.natCast_nonneg i), if_pos (Int.ofNat_lt.2 hlt), this, wrap_succ (by omega)]
  exact ih k (i + 1) (by omega) (by omega)
theorem number_same {s : ByteArray} {b : Bool} {K : Int} (hz : s.size ≤ 9223372036854775807) {k : Nat} (hk : 34 ≤ k) :
  ∃ r, pack_Reader_Number.f s b K = some r ∧ tenementref02_Reader_Number.f k s b K = some r ∧ r.2.1.size ≤ s.size := by
 have hbad : (b = true ∨ K < 1 ∨ 8 < K ∨ (s.size : Int) < K) → tenementref02_Reader_Number.f k s b K = some (0, ⟨#[]⟩, true) := by
  intro h
  obtain ⟨k, rfl⟩ : ∃ m, k = m + 1 := ⟨k - 1, by omega⟩
  unfold tenementref02_Reader_Number.f
  simp only [tenementref02_Reader_Number.j0]
  by_cases c0 : b = true
  ·rw [if_pos c0, if_pos trivial]
  ·rw [if_neg c0]
   by_cases c1 : K < 1
   ·rw [if_pos c1, if_pos trivial]
   ·rw [if_neg c1]
    by_cases c2 : K > 8
    ·rw [if_pos c2, if_pos trivial]
    ·rw [if_neg c2, if_pos (by rcases h with h | h | h | h <;> first | exact absurd h c0 | exact absurd h c1 | exact absurd h c2 | exact decide_eq_true h)]
 by_cases h : b = true ∨ K < 1 ∨ 8 < K ∨ (s.size : Int) < K
 ·exact ⟨_, ReaderNumber_bad h hz, hbad h, Nat.zero_le _⟩
 ·have hb : b = false := by cases b with | true => exact absurd (Or.inl rfl) h | false => rfl
  subst hb
  have h1 : ¬ K < 1 := fun c => h (Or.inr (Or.inl c))
  have h8 : ¬ 8 < K := fun c => h (Or.inr (Or.inr (Or.inl c)))
  have hs : ¬ (s.size : Int) < K := fun c => h (Or.inr (Or.inr (Or.inr c)))
  refine ⟨_, ReaderNumber_good (by omega) (by omega) (by omega) hz, ?_, ?_⟩
  ·obtain ⟨k, rfl⟩ : ∃ m, k = m + 1 := ⟨k - 1, by omega⟩
   unfold tenementref02_Reader_Number.f
   rw [if_neg (by simp), if_neg h1, if_neg h8, decide_eq_false hs]
   simp only [tenementref02_Reader_Number.j0]
   rw [if_neg (by simp)]
   exact rnumR_loop s false K (by omega) (by omega) hz K.toNat k 0 (by omega) (by omega)
  ·show (s.extract K.toNat s.size).size ≤ s.size
   simp
theorem vget_same {s : ByteArray} {b : Bool} (hz : s.size ≤ 9223372036854775807) {k : Nat} (hk : 34 ≤ k) : ∃ r, vec_Get.f k s b = some r ∧ tenementref06_Get.f k s b = some r ∧ r.2.2.2.2.1.size ≤ s.size := by
 obtain ⟨r0, a0, b0, c0, _⟩ := vary_same (s := s) (b := b) hz hk
 obtain ⟨r1, a1, b1, c1, _⟩ := vary_same (s := r0.2.1) (b := r0.2.2) (by omega) hk
 obtain ⟨r2, a2, b2, c2, _⟩ := vary_same (s := r1.2.1) (b := r1.2.2) (by omega) hk
 obtain ⟨r3, a3, b3, c3, _⟩ := vary_same (s := r2.2.1) (b := r2.2.2) (by omega) hk
 unfold vec_Get.f tenementref06_Get.f
 simp only [a0, b0, a1, b1, a2, b2, a3, b3, Option.bind_some, vright_f, rright06_f (show 5 ≤ k by omega)]
 by_cases h : r3.2.2 = true
 ·rw [if_pos h, if_pos h]; exact ⟨_, rfl, rfl, Nat.zero_le _⟩
 ·rw [if_neg h, if_neg h]
  split
  ·refine ⟨_, rfl, ?_, by show r3.2.1.size ≤ s.size; omega⟩
   have : r3.2.2 = false := by simpa using h
   rw [this]
  ·exact ⟨_, rfl, rfl, Nat.zero_le _⟩
theorem sget_same {s : ByteArray} {b : Bool} (hz : s.size ≤ 9223372036854775807) {k : Nat} (hk : 34 ≤ k) : ∃ r, stamp_Get.f k s b = some r ∧ tenementref07_Get.f k s b = some r := by
 obtain ⟨⟨p, t, c⟩, q1, q2, zt⟩ := number_same (s := s) (b := b) (K := 1) hz hk
 obtain ⟨⟨v0, v1, v2, v3, u, o⟩, g1, g2, _⟩ := vget_same (s := t) (b := c) (by simp at zt; omega) hk
 obtain ⟨r, r1, r2⟩ := sright_same v0 v1 v2 v3 (wrap64 p) (k := k) (by omega)
 unfold stamp_Get.f tenementref07_Get.f
 rw [q1, q2, Option.bind_some, Option.bind_some]
 simp only [g1, g2, Option.bind_some, r1, r2]
 cases o with
 | true => exact ⟨_, rfl, rfl⟩
 | false =>
  cases r with
  | true => exact ⟨_, rfl, rfl⟩
  | false => exact ⟨_, rfl, rfl⟩
end Go.Proofs.Ytoogchgoiciggaa.Pure
