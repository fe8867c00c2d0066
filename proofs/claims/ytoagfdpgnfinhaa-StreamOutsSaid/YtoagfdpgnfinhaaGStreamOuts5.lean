import Derived.Test.YtoagfdpgnfinhaaGStreamOuts2
import Derived.Test.YtoagfdpgnfinhaaGStreamOuts4
import Derived.Test.YtoagfdpgnfinhaaGStreamOuts3
namespace Go.Proofs.Ytoagfdpgnfinhaa.Q
open Go.RowKit Go.Proofs.YtoagfdpgnfinhaaW.PrintWords Go.Proofs.YtoagfdpgnfinhaaW.PrintLast Go.Proofs.YtoagfdpgnfinhaaW.PrintMore
attribute [local go_sem] max2_int min2_int max_two min_two max_three min_three max_four min_four   -- for this text's walks alone
set_option linter.unusedVariables false
set_option linter.unusedSimpArgs false
def pack_Reader_Text.f (k : Nat) (a0_0 : ByteArray) (a0_1 : Bool) (a1 : Int) : Option (ByteArray × ByteArray × Bool) := (pack_Reader_Vary.f k a0_0 a0_1).bind fun bt187 => (if bt187.2.2 = true then ((pack_bad.f).bind fun bt190 => (some ((⟨#[]⟩ : ByteArray), bt190.1, bt190.2))) else (if a1 < 0 then ((pack_bad.f).bind fun bt192 => (some ((⟨#[]⟩ : ByteArray), bt192.1, bt192.2))) else (if bt187.1 > (IntKind.u64.wrap (mn a1 (bt187.2.1.size : Int))) then ((pack_bad.f).bind fun bt194 => (some ((⟨#[]⟩ : ByteArray), bt194.1, bt194.2))) else (if 0 ≤ bt187.1 then (if bt187.1 ≤ (bt187.2.1.size : Int) then (some (bt187.2.1.extract 0 (bt187.1 : Int).toNat, bt187.2.1.extract (bt187.1 : Int).toNat bt187.2.1.size, false)) else (none)) else (none)))))
def pack_Reader_Text.T4 : Bool × List (List Nat × List Nat) := (true, [([], []), ([0], [0]), ([], []), ([1, 2], [1, 2]), ([], []), ([4], [4]), ([], []), ([5, 6], [5, 6]), ([7], [7]), ([3, 0, 1, 2, 3], [3]), ([8, 9, 0, 1, 2, 3, 4, 5, 6, 7, 8, 9], [8])])
def pack_Reader_Text.B4 : List Nat := [0, 1, 0, 7, 0, 16, 0, 112, 240, 15, 1023]
theorem pack_Reader_Text.tab4 : rtab .any (opsOf Try.f77 4) = pack_Reader_Text.T4 := by kernel_rfl
theorem pack_Reader_Text.bits4 : waitsOk pack_Reader_Text.T4.2 pack_Reader_Text.B4 = true := by kernel_rfl
set_option maxHeartbeats 8000000 in
set_option maxRecDepth 100000 in
theorem pack_Reader_Text.calls (k : Nat) (a0_0 : ByteArray) (a0_1 : Bool) (a1 : Int) (r1 : ByteArray) (r2 : ByteArray) (r3 : Bool) (w : World) (h : pack_Reader_Text.f k a0_0 a0_1 a1 = some (r1, r2, r3)) :
  Calls Try.prog 77 #[.agg #[.string a0_0, .bool a0_1], .int .i64 a1] w fun e w' => e = .returned (.tuple #[.string r1, .agg #[.string r2, .bool r3]]) ∧ Below w.heap.size w w' := by
 have hu134 := Try.underlying134
 have HB := Aside0.mk (Below.refl w.heap.size w)
 have H : ((pack_Reader_Vary.f k a0_0 a0_1).bind fun bt187 => (if bt187.2.2 = true then ((pack_bad.f).bind fun bt190 => (some ((⟨#[]⟩ : ByteArray), bt190.1, bt190.2))) else (if a1 < 0 then ((pack_bad.f).bind fun bt192 => (some ((⟨#[]⟩ : ByteArray), bt192.1, bt192.2))) else (if bt187.1 > (IntKind.u64.wrap (mn a1 (bt187.2.1.size : Int))) then ((pack_bad.f).bind fun bt194 => (some ((⟨#[]⟩ : ByteArray), bt194.1, bt194.2))) else (if 0 ≤ bt187.1 then (if bt187.1 ≤ (bt187.2.1.size : Int) then (some (bt187.2.1.extract 0 (bt187.1 : Int).toNat, bt187.2.1.extract (bt187.1 : Int).toNat bt187.2.1.size, false)) else (none)) else (none)))))) = some (r1, r2, r3) := h
 clear h
 replace H := Option.bind_eq_some_iff.mp H
 obtain ⟨⟨t187, t188, t189⟩, A30, H⟩ := H
 replace H : (if t189 = true then ((pack_bad.f).bind fun bt190 => (some ((⟨#[]⟩ : ByteArray), bt190.1, bt190.2))) else (if a1 < 0 then ((pack_bad.f).bind fun bt192 => (some ((⟨#[]⟩ : ByteArray), bt192.1, bt192.2))) else (if t187 > (IntKind.u64.wrap (mn a1 (t188.size : Int))) then ((pack_bad.f).bind fun bt194 => (some ((⟨#[]⟩ : ByteArray), bt194.1, bt194.2))) else (if 0 ≤ t187 then (if t187 ≤ (t188.size : Int) then (some (t188.extract 0 (t187 : Int).toNat, t188.extract (t187 : Int).toNat t188.size, false)) else (none)) else (none))))) = some (r1, r2, r3) := H
 have A3 := Aside0.mk A30
 clear A30
 by_cases c4 : t189 = true
 ·subst c4
  have H1 : ((pack_bad.f).bind fun bt190 => (some ((⟨#[]⟩ : ByteArray), bt190.1, bt190.2))) = some (r1, r2, r3) := by rw [if_pos rfl] at H; exact H
  clear H
  have H := H1
  clear H1
  replace H := Option.bind_eq_some_iff.mp H
  obtain ⟨⟨t190, t191⟩, A50, H⟩ := H
  replace H : (some ((⟨#[]⟩ : ByteArray), t190, t191)) = some (r1, r2, r3) := H
  have A5 := Aside0.mk A50
  clear A50
  simp only [Option.some.injEq, Prod.mk.injEq] at H
  obtain ⟨rfl, rfl, rfl⟩ := H
  go_enter Try.func77, Try.ntmps77
  go_wp2_with (first | ((with_reducible refine gate_dst (N := 2) rfl ?_); refine Ka_ 2 #[.string a0_0, .bool a0_1] 134 ?_; intro gb185 hg w6 hbox hb; have BK185 := Aside0.mk (hbox); have GW185 := Kw_ HB hg; have GE185 := GW185; replace HB := Ks_ HB hb; clear hb hbox hg) | ((with_reducible refine gate_dst (N := 5) rfl ?_); refine Ka_ 5 #[.string (⟨#[]⟩ : ByteArray), .bool false] 134 ?_; intro gb186 hg w7 hbox hb; have BK186 := Aside0.mk (hbox); have GW186 := Kw_ HB hg; have GE186 := GW186; have NB185_186 := Kl_ BK185 hg; have NB186_185 := Kr_ BK185 hg; replace BK185 := Kb_ BK185 hb; replace HB := Ks_ HB hb; clear hb hbox hg; have hnb8 := NB185_186.out; have hnc8 := NB186_185.out; obtain ⟨hcz9_0, hcz9_1, hfz9_0, hfz9_1⟩ := Ke2_ BK185.out) | ((with_reducible refine gate_callee (f := 76) rfl ?_); refine Kg_ (some 9) rfl rfl Try.func76 (by kernel_rfl) rfl #[.agg #[.string a0_0, .bool a0_1]] rfl ?_; (with_reducible refine (pack_Reader_Vary.calls k a0_0 a0_1 t187 t188 true _ A3.out).mono ?_); rintro e w10 ⟨rfl, hb⟩; refine ⟨_, rfl, ?_⟩; replace BK185 := Kb_ BK185 hb; replace BK186 := Kb_ BK186 hb; replace HB := Ks_ HB hb; (try clear hb); (try clear hb2); (try clear hk); (try clear hi); obtain ⟨hcz11_0, hcz11_1, hfz11_0, hfz11_1⟩ := Ke2_ BK185.out) | ((with_reducible refine gate_callee (f := 98) rfl ?_); refine Kg_ (some 28) rfl rfl Try.func98 (by kernel_rfl) rfl #[] rfl ?_; (with_reducible refine (pack_bad.calls  t190 t191 _ A5.out).mono ?_); rintro e w12 ⟨rfl, hb⟩; refine ⟨_, rfl, ?_⟩; replace BK185 := Aside0.mk (blk_below (g := gb185) (o := .cells #[.string t188, .bool true] 134 (0, 0)) (by refine Kv_ ?_; refine blk_put (cs := #[.string t188, .bool a0_1]) ?_ 1 _ rfl; refine Kv_ ?_; refine blk_put (cs := #[.string a0_0, .bool a0_1]) ?_ 0 _ rfl; exact Kq_ BK185) hb); replace BK186 := Kf_ BK186 NB186_185 hb; replace HB := Kt_ HB GE185 hb; (try clear hb); (try clear hb2); (try clear hk); (try clear hi); obtain ⟨hcz13_0, hcz13_1, hfz13_0, hfz13_1⟩ := Ke2_ BK186.out))
  refine bodyPost_ret (results_tc rfl _ _ gb186 134 #[.string t190, .bool t191] (0, 0) _ rfl (by refine Kv_ ?_; refine blk_put (cs := #[.string t190, .bool false]) ?_ 1 _ rfl; refine Kv_ ?_; refine blk_put (cs := #[.string (⟨#[]⟩ : ByteArray), .bool false]) ?_ 0 _ rfl; exact Kq_ BK186) Try.underlying134 rfl (by kernel_rfl)) rfl ?_
  exact ⟨Kh_, K2a_ HB GE185 GE186⟩
 replace c4 := Bool.eq_false_iff.mpr c4
 subst c4
 have H1 : (if a1 < 0 then ((pack_bad.f).bind fun bt192 => (some ((⟨#[]⟩ : ByteArray), bt192.1, bt192.2))) else (if t187 > (IntKind.u64.wrap (mn a1 (t188.size : Int))) then ((pack_bad.f).bind fun bt194 => (some ((⟨#[]⟩ : ByteArray), bt194.1, bt194.2))) else (if 0 ≤ t187 then (if t187 ≤ (t188.size : Int) then (some (t188.extract 0 (t187 : Int).toNat, t188.extract (t187 : Int).toNat t188.size, false)) else (none)) else (none)))) = some (r1, r2, r3) := by rw [if_neg (show ¬ (false = true) by decide)] at H; exact H
 clear H
 have H := H1
 clear H1
 by_cases c14 : a1 < 0
 ·rw [if_pos c14] at H
  have c14b0 : decide (a1 < 0) = true := decide_eq_true c14
  clear c14
  replace H := Option.bind_eq_some_iff.mp H
  obtain ⟨⟨t192, t193⟩, A150, H⟩ := H
  replace H : (some ((⟨#[]⟩ : ByteArray), t192, t193)) = some (r1, r2, r3) := H
  have A15 := Aside0.mk A150
  clear A150
  simp only [Option.some.injEq, Prod.mk.injEq] at H
  obtain ⟨rfl, rfl, rfl⟩ := H
  go_enter Try.func77, Try.ntmps77
  go_wp2_with (first | ((with_reducible refine gate_dst (N := 2) rfl ?_); refine Ka_ 2 #[.string a0_0, .bool a0_1] 134 ?_; intro gb185 hg w16 hbox hb; have BK185 := Aside0.mk (hbox); have GW185 := Kw_ HB hg; have GE185 := GW185; replace HB := Ks_ HB hb; clear hb hbox hg) | ((with_reducible refine gate_dst (N := 5) rfl ?_); refine Ka_ 5 #[.string (⟨#[]⟩ : ByteArray), .bool false] 134 ?_; intro gb186 hg w17 hbox hb; have BK186 := Aside0.mk (hbox); have GW186 := Kw_ HB hg; have GE186 := GW186; have NB185_186 := Kl_ BK185 hg; have NB186_185 := Kr_ BK185 hg; replace BK185 := Kb_ BK185 hb; replace HB := Ks_ HB hb; clear hb hbox hg; have hnb18 := NB185_186.out; have hnc18 := NB186_185.out; obtain ⟨hcz19_0, hcz19_1, hfz19_0, hfz19_1⟩ := Ke2_ BK185.out) | ((with_reducible refine gate_callee (f := 76) rfl ?_); refine Kg_ (some 9) rfl rfl Try.func76 (by kernel_rfl) rfl #[.agg #[.string a0_0, .bool a0_1]] rfl ?_; (with_reducible refine (pack_Reader_Vary.calls k a0_0 a0_1 t187 t188 false _ A3.out).mono ?_); rintro e w20 ⟨rfl, hb⟩; refine ⟨_, rfl, ?_⟩; replace BK185 := Kb_ BK185 hb; replace BK186 := Kb_ BK186 hb; replace HB := Ks_ HB hb; (try clear hb); (try clear hb2); (try clear hk); (try clear hi); obtain ⟨hcz21_0, hcz21_1, hfz21_0, hfz21_1⟩ := Ke2_ BK185.out) | ((with_reducible refine gate_callee (f := 98) rfl ?_); refine Kg_ (some 28) rfl rfl Try.func98 (by kernel_rfl) rfl #[] rfl ?_; (with_reducible refine (pack_bad.calls  t192 t193 _ A15.out).mono ?_); rintro e w22 ⟨rfl, hb⟩; refine ⟨_, rfl, ?_⟩; replace BK185 := Aside0.mk (blk_below (g := gb185) (o := .cells #[.string t188, .bool false] 134 (0, 0)) (by refine Kv_ ?_; refine blk_put (cs := #[.string t188, .bool a0_1]) ?_ 1 _ rfl; refine Kv_ ?_; refine blk_put (cs := #[.string a0_0, .bool a0_1]) ?_ 0 _ rfl; exact Kq_ BK185) hb); replace BK186 := Kf_ BK186 NB186_185 hb; replace HB := Kt_ HB GE185 hb; (try clear hb); (try clear hb2); (try clear hk); (try clear hi); obtain ⟨hcz23_0, hcz23_1, hfz23_0, hfz23_1⟩ := Ke2_ BK186.out))
  refine bodyPost_ret (results_tc rfl _ _ gb186 134 #[.string t192, .bool t193] (0, 0) _ rfl (by refine Kv_ ?_; refine blk_put (cs := #[.string t192, .bool false]) ?_ 1 _ rfl; refine Kv_ ?_; refine blk_put (cs := #[.string (⟨#[]⟩ : ByteArray), .bool false]) ?_ 0 _ rfl; exact Kq_ BK186) Try.underlying134 rfl (by kernel_rfl)) rfl ?_
  exact ⟨Kh_, K2a_ HB GE185 GE186⟩
 rw [if_neg c14] at H
 have c14b0 : decide (a1 < 0) = false := decide_eq_false c14
 clear c14
 obtain ⟨ji24, hji24⟩ : ∃ j_ : Int, (mn a1 (t188.size : Int)) = j_ := ⟨_, rfl⟩
 replace H : (if t187 > (IntKind.u64.wrap (ji24)) then ((pack_bad.f).bind fun bt194 => (some ((⟨#[]⟩ : ByteArray), bt194.1, bt194.2))) else (if 0 ≤ t187 then (if t187 ≤ (t188.size : Int) then (some (t188.extract 0 (t187 : Int).toNat, t188.extract (t187 : Int).toNat t188.size, false)) else (none)) else (none))) = some (r1, r2, r3) := by first | (rw [hji24] at H; exact H) | (simp only [hji24] at H ⊢; exact H)
 (try rw [hji24] at A3)
 have hji24_ : (if (t188.size : Int) < a1 then (t188.size : Int) else a1) = ji24 := hji24
 by_cases c25 : t187 > (IntKind.u64.wrap (ji24))
 ·rw [if_pos c25] at H
  have c25b0 : decide ((IntKind.u64.wrap (ji24)) < t187) = true := decide_eq_true c25
  clear c25
  replace H := Option.bind_eq_some_iff.mp H
  obtain ⟨⟨t194, t195⟩, A260, H⟩ := H
  replace H : (some ((⟨#[]⟩ : ByteArray), t194, t195)) = some (r1, r2, r3) := H
  have A26 := Aside0.mk A260
  clear A260
  simp only [Option.some.injEq, Prod.mk.injEq] at H
  obtain ⟨rfl, rfl, rfl⟩ := H
  go_enter Try.func77, Try.ntmps77
  go_wp2_with (first | ((with_reducible refine gate_dst (N := 2) rfl ?_); refine Ka_ 2 #[.string a0_0, .bool a0_1] 134 ?_; intro gb185 hg w27 hbox hb; have BK185 := Aside0.mk (hbox); have GW185 := Kw_ HB hg; have GE185 := GW185; replace HB := Ks_ HB hb; clear hb hbox hg) | ((with_reducible refine gate_dst (N := 5) rfl ?_); refine Ka_ 5 #[.string (⟨#[]⟩ : ByteArray), .bool false] 134 ?_; intro gb186 hg w28 hbox hb; have BK186 := Aside0.mk (hbox); have GW186 := Kw_ HB hg; have GE186 := GW186; have NB185_186 := Kl_ BK185 hg; have NB186_185 := Kr_ BK185 hg; replace BK185 := Kb_ BK185 hb; replace HB := Ks_ HB hb; clear hb hbox hg; have hnb29 := NB185_186.out; have hnc29 := NB186_185.out; obtain ⟨hcz30_0, hcz30_1, hfz30_0, hfz30_1⟩ := Ke2_ BK185.out) | ((with_reducible refine gate_callee (f := 76) rfl ?_); refine Kg_ (some 9) rfl rfl Try.func76 (by kernel_rfl) rfl #[.agg #[.string a0_0, .bool a0_1]] rfl ?_; (with_reducible refine (pack_Reader_Vary.calls k a0_0 a0_1 t187 t188 false _ A3.out).mono ?_); rintro e w31 ⟨rfl, hb⟩; refine ⟨_, rfl, ?_⟩; replace BK185 := Kb_ BK185 hb; replace BK186 := Kb_ BK186 hb; replace HB := Ks_ HB hb; (try clear hb); (try clear hb2); (try clear hk); (try clear hi); obtain ⟨hcz32_0, hcz32_1, hfz32_0, hfz32_1⟩ := Ke2_ BK185.out) | ((with_reducible refine gate_callee (f := 98) rfl ?_); refine Kg_ (some 28) rfl rfl Try.func98 (by kernel_rfl) rfl #[] rfl ?_; (with_reducible refine (pack_bad.calls  t194 t195 _ A26.out).mono ?_); rintro e w33 ⟨rfl, hb⟩; refine ⟨_, rfl, ?_⟩; replace BK185 := Aside0.mk (blk_below (g := gb185) (o := .cells #[.string t188, .bool false] 134 (0, 0)) (by refine Kv_ ?_; refine blk_put (cs := #[.string t188, .bool a0_1]) ?_ 1 _ rfl; refine Kv_ ?_; refine blk_put (cs := #[.string a0_0, .bool a0_1]) ?_ 0 _ rfl; exact Kq_ BK185) hb); replace BK186 := Kf_ BK186 NB186_185 hb; replace HB := Kt_ HB GE185 hb; (try clear hb); (try clear hb2); (try clear hk); (try clear hi); obtain ⟨hcz34_0, hcz34_1, hfz34_0, hfz34_1⟩ := Ke2_ BK186.out))
  refine bodyPost_ret (results_tc rfl _ _ gb186 134 #[.string t194, .bool t195] (0, 0) _ rfl (by refine Kv_ ?_; refine blk_put (cs := #[.string t194, .bool false]) ?_ 1 _ rfl; refine Kv_ ?_; refine blk_put (cs := #[.string (⟨#[]⟩ : ByteArray), .bool false]) ?_ 0 _ rfl; exact Kq_ BK186) Try.underlying134 rfl (by kernel_rfl)) rfl ?_
  exact ⟨by first | rfl | (simp [errW_none, errW_some] <;> rfl) | (simp only [← hji24]; first | rfl | (simp [errW_none, errW_some] <;> rfl)) | (simp [*, errW_none, errW_some] <;> rfl), K2a_ HB GE185 GE186⟩
 rw [if_neg c25] at H
 have c25b0 : decide ((IntKind.u64.wrap (ji24)) < t187) = false := decide_eq_false c25
 clear c25
 by_cases c35 : 0 ≤ t187
 rotate_left
 ·rw [if_neg c35] at H
  exact absurd H (by simp)
 rw [if_pos c35] at H
 have c35b0 := eq_true c35
 have c35b1 : decide (0 ≤ t187) = true := decide_eq_true c35
 clear c35
 by_cases c36 : t187 ≤ (t188.size : Int)
 rotate_left
 ·rw [if_neg c36] at H
  exact absurd H (by simp)
 rw [if_pos c36] at H
 have c36b0 := eq_true c36
 have c36b1 : decide (t187 ≤ (t188.size : Int)) = true := decide_eq_true c36
 clear c36
 have c37b0 := eq_true (of_decide_eq_true (by first | (with_reducible assumption) | assumption) : 0 ≤ t187)
 have c38b0 := eq_true (of_decide_eq_true (by first | (with_reducible assumption) | assumption) : t187 ≤ (t188.size : Int))
 simp only [Option.some.injEq, Prod.mk.injEq] at H
 obtain ⟨rfl, rfl, rfl⟩ := H
 go_enter Try.func77, Try.ntmps77
 try go_wp2_with (first | ((with_reducible refine gate_dst (N := 2) rfl ?_); refine Ka_ 2 #[.string a0_0, .bool a0_1] 134 ?_; intro gb185 hg w39 hbox hb; have BK185 := Aside0.mk (hbox); have GW185 := Kw_ HB hg; have GE185 := GW185; replace HB := Ks_ HB hb; clear hb hbox hg) | ((with_reducible refine gate_dst (N := 5) rfl ?_); refine Ka_ 5 #[.string (⟨#[]⟩ : ByteArray), .bool false] 134 ?_; intro gb186 hg w40 hbox hb; have BK186 := Aside0.mk (hbox); have GW186 := Kw_ HB hg; have GE186 := GW186; have NB185_186 := Kl_ BK185 hg; have NB186_185 := Kr_ BK185 hg; replace BK185 := Kb_ BK185 hb; replace HB := Ks_ HB hb; clear hb hbox hg; have hnb41 := NB185_186.out; have hnc41 := NB186_185.out; obtain ⟨hcz42_0, hcz42_1, hfz42_0, hfz42_1⟩ := Ke2_ BK185.out) | ((with_reducible refine gate_callee (f := 76) rfl ?_); refine Kg_ (some 9) rfl rfl Try.func76 (by kernel_rfl) rfl #[.agg #[.string a0_0, .bool a0_1]] rfl ?_; (with_reducible refine (pack_Reader_Vary.calls k a0_0 a0_1 t187 t188 false _ A3.out).mono ?_); rintro e w43 ⟨rfl, hb⟩; refine ⟨_, rfl, ?_⟩; replace BK185 := Kb_ BK185 hb; replace BK186 := Kb_ BK186 hb; replace HB := Ks_ HB hb; (try clear hb); (try clear hb2); (try clear hk); (try clear hi); obtain ⟨hcz44_0, hcz44_1, hfz44_0, hfz44_1⟩ := Ke2_ BK185.out))
 have n0_ : Aside0 (((w43.setCell ⟨gb185, 0, none⟩ (.string t188)).setCell ⟨gb185, 1, none⟩ (.bool false)).heap[gb185]? = some (.cells #[.string t188, .bool false] 134 (0, 0))) := ⟨by refine Kv_ ?_; refine blk_put (cs := #[.string t188, .bool a0_1]) ?_ 1 _ rfl; refine Kv_ ?_; refine blk_put (cs := #[.string a0_0, .bool a0_1]) ?_ 0 _ rfl; exact Kq_ BK185⟩
 have n1_ : Aside0 (((w43.setCell ⟨gb185, 0, none⟩ (.string t188)).setCell ⟨gb185, 1, none⟩ (.bool false)).heap[gb186]? = some (.cells #[.string (⟨#[]⟩ : ByteArray), .bool false] 134 (0, 0))) := ⟨by exact K1b_ BK186 NB186_185⟩
 have n2_ : Aside0 (Below w.heap.size w ((w43.setCell ⟨gb185, 0, none⟩ (.string t188)).setCell ⟨gb185, 1, none⟩ (.bool false))) := ⟨K2a_ HB GE185 GE186⟩
 (try clear BK185)
 (try clear BK186)
 (try clear HB)
 generalize ((w43.setCell ⟨gb185, 0, none⟩ (.string t188)).setCell ⟨gb185, 1, none⟩ (.bool false)) = w45 at n0_ n1_ n2_ ⊢
 have BK185 := n0_
 have BK186 := n1_
 have HB := n2_
 clear n0_ n1_ n2_
 replace BK185 := Kd_ BK185
 replace BK186 := Kd_ BK186
 replace HB := Aside0.mk (below_drew1 HB.out)
 refine start_ (n := 11) (S := fun w' => w'.cell? ⟨gb185, 0, none⟩ = some (.string t188) ∧ w'.cell? ⟨gb185, 1, none⟩ = some (.bool false)) (ds := []) (mB_ 11 0) (by kernel_rfl) rfl rfl (Kc2_ BK185.out) (fun hHeld => ?_); refine with_tabW pack_Reader_Text.tab4 pack_Reader_Text.bits4 (fun HT_ HW_ => ?_)
 generalize w45.drew = w46 at BK185 BK186 HB hHeld ⊢
 refine Kp_ 0 29 (mB_ 11 1) (any_of HT_.out (by kernel_rfl)) ?_
 refine Kp_ 2 31 (mB_ 11 5) (any_of HT_.out (by kernel_rfl)) ?_
 refine Kp_ 4 33 (mB_ 11 21) (any_of HT_.out (by kernel_rfl)) ?_
 refine Kp_ 6 35 (mB_ 11 85) (any_of HT_.out (by kernel_rfl)) ?_
 refine Ko_ 1 30 (mB_ 11 87) (take_ofW HT_.out HW_.out (by kernel_rfl)) hHeld ?_
 refine Kp_ 3 32 (mB_ 11 95) (any_of HT_.out (by kernel_rfl)) ?_
 refine Kp_ 9 4 (mB_ 11 607) (any_of HT_.out (by kernel_rfl)) ?_
 refine Ko_ 5 34 (mB_ 11 639) (take_ofW HT_.out HW_.out (by kernel_rfl)) hHeld ?_
 refine Kp_ 7 36 (mB_ 11 767) (any_of HT_.out (by kernel_rfl)) ?_
 refine Kp_ 8 37 (mB_ 11 1023) (any_of HT_.out (by kernel_rfl)) ?_
 refine one_ (i := 10) (N := none) (mB_ 11 2047) rfl rfl (one_of HT_.out (by kernel_rfl)) (by decide) (fun K hK => ?_)
 have hs47 : w46.cell? ⟨gb186, 0, none⟩ = some (.string (⟨#[]⟩ : ByteArray)) := (blk_cell BK186.out 0).trans rfl
 have hfs47 := blk_frozen BK186.out 0
 have hns47_0 := NB185_186.out
 have hms47_0 := NB186_185.out
 have hs48 : w46.cell? ⟨gb186, 1, none⟩ = some (.bool false) := (blk_cell BK186.out 1).trans rfl
 have hfs48 := blk_frozen BK186.out 1
 have hns48_0 := NB185_186.out
 have hms48_0 := NB186_185.out
 refine skip_ (w1 := ?_) (by rfl) rfl ?_ ?_
 rotate_left
 ·go_simp
  rfl
 refine hK.out _ _ ⟨(Kj_ NB185_186 ((Kj_ NB185_186 (hHeld.1)))), (Kj_ NB185_186 ((Kj_ NB185_186 (hHeld.2))))⟩ (fun hHeld => ?_)
 clear hK K
 refine done_ (done_of HT_.out (by kernel_rfl)) ?_
 try go_wp2
 refine bodyPost_ret (results_tc rfl _ _ gb186 134 #[.string (t188.extract (t187 : Int).toNat t188.size), .bool false] (0, 0) _ rfl (by refine Kv_ ?_; refine blk_put (cs := #[.string (t188.extract (t187 : Int).toNat t188.size), .bool false]) ?_ 1 _ rfl; refine Kv_ ?_; refine blk_put (cs := #[.string (⟨#[]⟩ : ByteArray), .bool false]) ?_ 0 _ rfl; exact Kq_ BK186) Try.underlying134 rfl (by kernel_rfl)) rfl ?_
 exact ⟨by first | rfl | (simp [errW_none, errW_some] <;> rfl) | (simp only [← hji24]; first | rfl | (simp [errW_none, errW_some] <;> rfl)) | (simp [*, errW_none, errW_some] <;> rfl), K2a_ HB GE185 GE186⟩
def vec_Get.f (k : Nat) (a0_0 : ByteArray) (a0_1 : Bool) : Option (Int × Int × Int × Int × ByteArray × Bool) :=
 (pack_Reader_Vary.f k a0_0 a0_1).bind fun r0 => (pack_Reader_Vary.f k r0.2.1 r0.2.2).bind fun r1 => (pack_Reader_Vary.f k r1.2.1 r1.2.2).bind fun r2 => (pack_Reader_Vary.f k r2.2.1 r2.2.2).bind fun r3 =>
  if r3.2.2 = true then some (0, 0, 0, 0, (⟨#[]⟩ : ByteArray), true) else (vec_Right.f r0.1 r1.1 r2.1 r3.1).bind fun t => if t = true then some (r0.1, r1.1, r2.1, r3.1, r3.2.1, false) else some (0, 0, 0, 0, (⟨#[]⟩ : ByteArray), true)
theorem vec_Get.boxes3 (w : World) (xs ys zs : Array Value) (t1 t2 t3 : TypeId) (W : World) (h : ((w.alloc (.cells xs t1)).alloc (.cells ys t2)).alloc (.cells zs t3) = W) :
  W.heap[w.heap.size]? = some (.cells xs t1 (0,0)) ∧ W.heap[w.heap.size+1]? = some (.cells ys t2 (0,0)) ∧ W.heap[w.heap.size+1+1]? = some (.cells zs t3 (0,0)) ∧ Below w.heap.size w W := by
 subst h
 have s1 : (w.alloc (.cells xs t1)).heap.size = w.heap.size + 1 := by simp [World.alloc, -World.alloc_eq]
 have s2 : ((w.alloc (.cells xs t1)).alloc (.cells ys t2)).heap.size = w.heap.size + 1 + 1 := by simp [World.alloc, -World.alloc_eq]
 refine ⟨blk_alloc (blk_alloc (blk_new _ _) _) _, ?_, ?_, below_alloc (below_alloc (below_alloc (Below.refl _ _) _) _) _⟩
 ·rw [← s1]; exact blk_alloc (blk_new _ _) _
 ·rw [← s2]; exact blk_new _ _
set_option maxHeartbeats 8000000 in
set_option maxRecDepth 100000 in
theorem vec_Get.calls (k : Nat) (a0_0 : ByteArray) (a0_1 : Bool) (r1 r2 r3 r4 : Int) (r5 : ByteArray) (r6 : Bool) (w : World) (h : vec_Get.f k a0_0 a0_1 = some (r1, r2, r3, r4, r5, r6)) :
  Calls Try.prog 106 #[.agg #[.string a0_0, .bool a0_1]] w fun e w' => e = .returned (.tuple #[.agg #[.int .u64 r1, .int .u64 r2, .int .u64 r3, .int .u64 r4], .agg #[.string r5, .bool r6]]) ∧ Below w.heap.size w w' := by
 unfold vec_Get.f at h
 obtain ⟨⟨n0, s1, b1⟩, A0, h⟩ := Option.bind_eq_some_iff.1 h
 obtain ⟨⟨n1, s2, b2⟩, A1, h⟩ := Option.bind_eq_some_iff.1 h
 obtain ⟨⟨n2, s3, b3⟩, A2, h⟩ := Option.bind_eq_some_iff.1 h
 obtain ⟨⟨n3, s4, b4⟩, A3, h⟩ := Option.bind_eq_some_iff.1 h
 replace A0 := Aside0.mk A0
 replace A1 := Aside0.mk A1
 replace A2 := Aside0.mk A2
 replace A3 := Aside0.mk A3
 simp only at h
 have HH := Aside0.mk h
 clear h
 have hu := Try.underlying28
 have hu2 := Try.underlying26
 have hu3 := Try.underlying134
 go_enter Try.func106, Try.ntmps106
 go_wp2
 generalize hW : (((w.alloc (Obj.cells #[.string a0_0, .bool a0_1] 134)).alloc (Obj.cells _ 28)).alloc (Obj.cells _ 134)) = W0
 obtain ⟨hA, hB, hC, HB⟩ := vec_Get.boxes3 _ _ _ _ _ _ _ _ hW
 replace HB := Aside0.mk HB
 clear hW
 obtain ⟨B0, hB0⟩ : ∃ B0, B0 = w.heap.size := ⟨_, rfl⟩
 obtain ⟨B1, hB1⟩ : ∃ B1, B1 = w.heap.size + 1 := ⟨_, rfl⟩
 obtain ⟨B2, hB2⟩ : ∃ B2, B2 = w.heap.size + 1 + 1 := ⟨_, rfl⟩
 rw [← hB2, ← hB1, ← hB0]
 rw [← hB0] at hA
 rw [← hB1] at hB
 rw [← hB2] at hC
 have g01 : B0 ≠ B1 := by omega
 have g02 : B0 ≠ B2 := by omega
 have g12 : B1 ≠ B2 := by omega
 have GA := Aside0.mk (show w.heap.size ≤ B0 by omega)
 have GB := Aside0.mk (show w.heap.size ≤ B1 by omega)
 have GC := Aside0.mk (show w.heap.size ≤ B2 by omega)
 clear hB0 hB1 hB2
 replace hA := Aside0.mk hA
 replace hB := Aside0.mk hB
 replace hC := Aside0.mk hC
 refine wp_loop_rounds 5 ?_
 rw [rounds_succ]
 have ca0 := (blk_cell hA.out 0).trans rfl
 have ca1 := (blk_cell hA.out 1).trans rfl
 go_wp2_with (go_at_call 76; refine (pack_Reader_Vary.calls k a0_0 a0_1 n0 s1 b1 _ A0.out).mono ?_; rintro e w1 ⟨rfl, hb⟩; clear ca0 ca1; have hA1 := Aside0.mk (blk_below hA.out hb); have hB1 := Aside0.mk (blk_below hB.out hb); have hC1 := Aside0.mk (blk_below hC.out hb); have HB1 := Aside0.mk (below_step HB.out hb); clear hA hB hC HB; clear hb; have fa0 := blk_frozen hA1.out 0; have fa1 := blk_frozen hA1.out 1; have ca0 := (blk_cell hA1.out 0).trans rfl; have ca1 := (blk_cell hA1.out 1).trans rfl; have fb := blk_frozen hB1.out 0; have cb := (blk_cell hB1.out 0).trans rfl)
 clear ca0 ca1 cb fa0 fa1 fb
 have hA := Aside0.mk (blk_put (blk_put (blk_far hA1.out (p := ⟨B1, 0, none⟩) g01 (.int .u64 n0)) 0 (.string s1) rfl) 1 (.bool b1) (cs' := #[.string s1, .bool b1]) rfl)
 have hB := Aside0.mk (blk_far (blk_far (blk_put hB1.out 0 (.int .u64 n0) (cs' := #[.int .u64 n0, .int .u64 0, .int .u64 0, .int .u64 0]) rfl) (p := ⟨B0, 0, none⟩) (Ne.symm g01) (.string s1)) (p := ⟨B0, 1, none⟩) (Ne.symm g01) (.bool b1))
 have hC := Aside0.mk (blk_far (blk_far (blk_far hC1.out (p := ⟨B1, 0, none⟩) (Ne.symm g12) (.int .u64 n0)) (p := ⟨B0, 0, none⟩) (Ne.symm g02) (.string s1)) (p := ⟨B0, 1, none⟩) (Ne.symm g02) (.bool b1))
 have HB := Aside0.mk (below_set (j := 1) (v := .bool b1) (below_set (j := 0) (v := .string s1) (below_set (j := 0) (v := .int .u64 n0) HB1.out GB.out) GA.out) GA.out)
 clear hA1 hB1 hC1 HB1
 generalize ((w1.setCell ⟨B1, 0, none⟩ (.int .u64 n0)).setCell ⟨B0, 0, none⟩ (.string s1)).setCell ⟨B0, 1, none⟩ (.bool b1) = W1 at *
 clear w1 W0
 rw [rounds_succ]
 have ca0 := (blk_cell hA.out 0).trans rfl
 have ca1 := (blk_cell hA.out 1).trans rfl
 go_wp2_with (go_at_call 76; refine (pack_Reader_Vary.calls k s1 b1 n1 s2 b2 _ A1.out).mono ?_; rintro e w1 ⟨rfl, hb⟩; clear ca0 ca1; have hA1 := Aside0.mk (blk_below hA.out hb); have hB1 := Aside0.mk (blk_below hB.out hb); have hC1 := Aside0.mk (blk_below hC.out hb); have HB1 := Aside0.mk (below_step HB.out hb); clear hA hB hC HB; clear hb; have fa0 := blk_frozen hA1.out 0; have fa1 := blk_frozen hA1.out 1; have ca0 := (blk_cell hA1.out 0).trans rfl; have ca1 := (blk_cell hA1.out 1).trans rfl; have fb := blk_frozen hB1.out 1; have cb := (blk_cell hB1.out 1).trans rfl)
 clear ca0 ca1 cb fa0 fa1 fb
 have hA := Aside0.mk (blk_put (blk_put (blk_far hA1.out (p := ⟨B1, 1, none⟩) g01 (.int .u64 n1)) 0 (.string s2) rfl) 1 (.bool b2) (cs' := #[.string s2, .bool b2]) rfl)
 have hB := Aside0.mk (blk_far (blk_far (blk_put hB1.out 1 (.int .u64 n1) (cs' := #[.int .u64 n0, .int .u64 n1, .int .u64 0, .int .u64 0]) rfl) (p := ⟨B0, 0, none⟩) (Ne.symm g01) (.string s2)) (p := ⟨B0, 1, none⟩) (Ne.symm g01) (.bool b2))
 have hC := Aside0.mk (blk_far (blk_far (blk_far hC1.out (p := ⟨B1, 1, none⟩) (Ne.symm g12) (.int .u64 n1)) (p := ⟨B0, 0, none⟩) (Ne.symm g02) (.string s2)) (p := ⟨B0, 1, none⟩) (Ne.symm g02) (.bool b2))
 have HB := Aside0.mk (below_set (j := 1) (v := .bool b2) (below_set (j := 0) (v := .string s2) (below_set (j := 1) (v := .int .u64 n1) HB1.out GB.out) GA.out) GA.out)
 clear hA1 hB1 hC1 HB1
 generalize ((w1.setCell ⟨B1, 1, none⟩ (.int .u64 n1)).setCell ⟨B0, 0, none⟩ (.string s2)).setCell ⟨B0, 1, none⟩ (.bool b2) = W2 at *
 clear w1 W1
 rw [rounds_succ]
 have ca0 := (blk_cell hA.out 0).trans rfl
 have ca1 := (blk_cell hA.out 1).trans rfl
 go_wp2_with (go_at_call 76; refine (pack_Reader_Vary.calls k s2 b2 n2 s3 b3 _ A2.out).mono ?_; rintro e w1 ⟨rfl, hb⟩; clear ca0 ca1; have hA1 := Aside0.mk (blk_below hA.out hb); have hB1 := Aside0.mk (blk_below hB.out hb); have hC1 := Aside0.mk (blk_below hC.out hb); have HB1 := Aside0.mk (below_step HB.out hb); clear hA hB hC HB; clear hb; have fa0 := blk_frozen hA1.out 0; have fa1 := blk_frozen hA1.out 1; have ca0 := (blk_cell hA1.out 0).trans rfl; have ca1 := (blk_cell hA1.out 1).trans rfl; have fb := blk_frozen hB1.out 2; have cb := (blk_cell hB1.out 2).trans rfl)
 clear ca0 ca1 cb fa0 fa1 fb
 have hA := Aside0.mk (blk_put (blk_put (blk_far hA1.out (p := ⟨B1, 2, none⟩) g01 (.int .u64 n2)) 0 (.string s3) rfl) 1 (.bool b3) (cs' := #[.string s3, .bool b3]) rfl)
 have hB := Aside0.mk (blk_far (blk_far (blk_put hB1.out 2 (.int .u64 n2) (cs' := #[.int .u64 n0, .int .u64 n1, .int .u64 n2, .int .u64 0]) rfl) (p := ⟨B0, 0, none⟩) (Ne.symm g01) (.string s3)) (p := ⟨B0, 1, none⟩) (Ne.symm g01) (.bool b3))
 have hC := Aside0.mk (blk_far (blk_far (blk_far hC1.out (p := ⟨B1, 2, none⟩) (Ne.symm g12) (.int .u64 n2)) (p := ⟨B0, 0, none⟩) (Ne.symm g02) (.string s3)) (p := ⟨B0, 1, none⟩) (Ne.symm g02) (.bool b3))
 have HB := Aside0.mk (below_set (j := 1) (v := .bool b3) (below_set (j := 0) (v := .string s3) (below_set (j := 2) (v := .int .u64 n2) HB1.out GB.out) GA.out) GA.out)
 clear hA1 hB1 hC1 HB1
 generalize ((w1.setCell ⟨B1, 2, none⟩ (.int .u64 n2)).setCell ⟨B0, 0, none⟩ (.string s3)).setCell ⟨B0, 1, none⟩ (.bool b3) = W3 at *
 clear w1 W2
 rw [rounds_succ]
 have ca0 := (blk_cell hA.out 0).trans rfl
 have ca1 := (blk_cell hA.out 1).trans rfl
 go_wp2_with (go_at_call 76; refine (pack_Reader_Vary.calls k s3 b3 n3 s4 b4 _ A3.out).mono ?_; rintro e w1 ⟨rfl, hb⟩; clear ca0 ca1; have hA1 := Aside0.mk (blk_below hA.out hb); have hB1 := Aside0.mk (blk_below hB.out hb); have hC1 := Aside0.mk (blk_below hC.out hb); have HB1 := Aside0.mk (below_step HB.out hb); clear hA hB hC HB; clear hb; have fa0 := blk_frozen hA1.out 0; have fa1 := blk_frozen hA1.out 1; have ca0 := (blk_cell hA1.out 0).trans rfl; have ca1 := (blk_cell hA1.out 1).trans rfl; have fb := blk_frozen hB1.out 3; have cb := (blk_cell hB1.out 3).trans rfl)
 clear ca0 ca1 cb fa0 fa1 fb
 have hA := Aside0.mk (blk_put (blk_put (blk_far hA1.out (p := ⟨B1, 3, none⟩) g01 (.int .u64 n3)) 0 (.string s4) rfl) 1 (.bool b4) (cs' := #[.string s4, .bool b4]) rfl)
 have hB := Aside0.mk (blk_far (blk_far (blk_put hB1.out 3 (.int .u64 n3) (cs' := #[.int .u64 n0, .int .u64 n1, .int .u64 n2, .int .u64 n3]) rfl) (p := ⟨B0, 0, none⟩) (Ne.symm g01) (.string s4)) (p := ⟨B0, 1, none⟩) (Ne.symm g01) (.bool b4))
 have hC := Aside0.mk (blk_far (blk_far (blk_far hC1.out (p := ⟨B1, 3, none⟩) (Ne.symm g12) (.int .u64 n3)) (p := ⟨B0, 0, none⟩) (Ne.symm g02) (.string s4)) (p := ⟨B0, 1, none⟩) (Ne.symm g02) (.bool b4))
 have HB := Aside0.mk (below_set (j := 1) (v := .bool b4) (below_set (j := 0) (v := .string s4) (below_set (j := 3) (v := .int .u64 n3) HB1.out GB.out) GA.out) GA.out)
 clear hA1 hB1 hC1 HB1
 generalize ((w1.setCell ⟨B1, 3, none⟩ (.int .u64 n3)).setCell ⟨B0, 0, none⟩ (.string s4)).setCell ⟨B0, 1, none⟩ (.bool b4) = W4 at *
 clear w1 W3
 rw [rounds_succ]
 have fb0 := blk_frozen hB.out 0
 have fb1 := blk_frozen hB.out 1
 have fb2 := blk_frozen hB.out 2
 have fb3 := blk_frozen hB.out 3
 have cb0 := (blk_cell hB.out 0).trans rfl
 have cb1 := (blk_cell hB.out 1).trans rfl
 have cb2 := (blk_cell hB.out 2).trans rfl
 have cb3 := (blk_cell hB.out 3).trans rfl
 have fc0 := blk_frozen hC.out 0
 have fc1 := blk_frozen hC.out 1
 have cc0 := (blk_cell hC.out 0).trans rfl
 have cc1 := (blk_cell hC.out 1).trans rfl
 have ca0 := (blk_cell hA.out 0).trans rfl
 have ca1 := (blk_cell hA.out 1).trans rfl
 cases b4 with
 | true =>
  have h := HH.out
  rw [if_pos rfl] at h
  simp only [Option.some.injEq, Prod.mk.injEq] at h
  obtain ⟨rfl, rfl, rfl, rfl, rfl, rfl⟩ := h
  clear HH
  go_wp2
  clear fb0 fb1 fb2 fb3 cb0 cb1 cb2 cb3 fc0 fc1 cc0 cc1 ca0 ca1
  have hB1 := Aside0.mk (blk_far (blk_far (blk_put (blk_put (blk_put (blk_put hB.out 0 (.int .u64 0) rfl) 1 (.int .u64 0) rfl) 2 (.int .u64 0) rfl) 3 (.int .u64 0) (cs' := #[.int .u64 0, .int .u64 0, .int .u64 0, .int .u64 0]) rfl) (p := ⟨B2, 0, none⟩) g12 (.string (⟨#[]⟩ : ByteArray))) (p := ⟨B2, 1, none⟩) g12 (.bool true))
  have hC1 := Aside0.mk (blk_put (blk_put (blk_far (blk_far (blk_far (blk_far hC.out (p := ⟨B1, 0, none⟩) (Ne.symm g12) (.int .u64 0)) (p := ⟨B1, 1, none⟩) (Ne.symm g12) (.int .u64 0)) (p := ⟨B1, 2, none⟩) (Ne.symm g12) (.int .u64 0)) (p := ⟨B1, 3, none⟩) (Ne.symm g12) (.int .u64 0)) 0 (.string (⟨#[]⟩ : ByteArray)) rfl) 1 (.bool true) (cs' := #[.string (⟨#[]⟩ : ByteArray), .bool true]) rfl)
  have HB1 := Aside0.mk (below_set (j := 1) (v := .bool true) (below_set (j := 0) (v := .string (⟨#[]⟩ : ByteArray)) (below_set (j := 3) (v := .int .u64 0) (below_set (j := 2) (v := .int .u64 0) (below_set (j := 1) (v := .int .u64 0) (below_set (j := 0) (v := .int .u64 0) HB.out GB.out) GB.out) GB.out) GB.out) GC.out) GC.out)
  clear hA hB hC HB
  generalize ((((((W4.setCell ⟨B1, 0, none⟩ (.int .u64 0)).setCell ⟨B1, 1, none⟩ (.int .u64 0)).setCell ⟨B1, 2, none⟩ (.int .u64 0)).setCell ⟨B1, 3, none⟩ (.int .u64 0)).setCell ⟨B2, 0, none⟩ (.string (⟨#[]⟩ : ByteArray))).setCell ⟨B2, 1, none⟩ (.bool true)) = W9 at *
  have d0 := (blk_cell hB1.out 0).trans rfl
  have d1 := (blk_cell hB1.out 1).trans rfl
  have d2 := (blk_cell hB1.out 2).trans rfl
  have d3 := (blk_cell hB1.out 3).trans rfl
  have d4 := (blk_cell hC1.out 0).trans rfl
  have d5 := (blk_cell hC1.out 1).trans rfl
  refine bodyPost_ret (v := .tuple #[.agg #[.int .u64 0, .int .u64 0, .int .u64 0, .int .u64 0], .agg #[.string (⟨#[]⟩ : ByteArray), .bool true]]) (by simp [results, Try.results106, go_sem, hu, hu2, hu3, d0, d1, d2, d3, d4, d5]) rfl ⟨rfl, HB1.out⟩
 | false =>
  have h := HH.out
  rw [if_neg (by simp)] at h
  obtain ⟨t, A4, h⟩ := Option.bind_eq_some_iff.1 h
  replace A4 := Aside0.mk A4
  clear HH
  cases t with
  | false =>
   rw [if_neg (by simp)] at h
   simp only [Option.some.injEq, Prod.mk.injEq] at h
   obtain ⟨rfl, rfl, rfl, rfl, rfl, rfl⟩ := h
   go_wp2_with (go_at_call 92; refine (vec_Right.calls n0 n1 n2 n3 false _ A4.out).mono ?_; rintro e w1 ⟨rfl, hb⟩; clear fb0 fb1 fb2 fb3 cb0 cb1 cb2 cb3 fc0 fc1 cc0 cc1 ca0 ca1; have hA1 := Aside0.mk (blk_below hA.out hb); have hB1 := Aside0.mk (blk_below hB.out hb); have hC1 := Aside0.mk (blk_below hC.out hb); have HB1 := Aside0.mk (below_step HB.out hb); clear hA hB hC HB; clear hb; have hA := hA1; have hB := hB1; have hC := hC1; have HB := HB1; clear hA1 hB1 hC1 HB1; have fb0 := blk_frozen hB.out 0; have fb1 := blk_frozen hB.out 1; have fb2 := blk_frozen hB.out 2; have fb3 := blk_frozen hB.out 3; have cb0 := (blk_cell hB.out 0).trans rfl; have cb1 := (blk_cell hB.out 1).trans rfl; have cb2 := (blk_cell hB.out 2).trans rfl; have cb3 := (blk_cell hB.out 3).trans rfl; have fc0 := blk_frozen hC.out 0; have fc1 := blk_frozen hC.out 1; have cc0 := (blk_cell hC.out 0).trans rfl; have cc1 := (blk_cell hC.out 1).trans rfl; have ca0 := (blk_cell hA.out 0).trans rfl; have ca1 := (blk_cell hA.out 1).trans rfl)
   clear fb0 fb1 fb2 fb3 cb0 cb1 cb2 cb3 fc0 fc1 cc0 cc1 ca0 ca1
   have hB1 := Aside0.mk (blk_far (blk_far (blk_put (blk_put (blk_put (blk_put hB.out 0 (.int .u64 0) rfl) 1 (.int .u64 0) rfl) 2 (.int .u64 0) rfl) 3 (.int .u64 0) (cs' := #[.int .u64 0, .int .u64 0, .int .u64 0, .int .u64 0]) rfl) (p := ⟨B2, 0, none⟩) g12 (.string (⟨#[]⟩ : ByteArray))) (p := ⟨B2, 1, none⟩) g12 (.bool true))
   have hC1 := Aside0.mk (blk_put (blk_put (blk_far (blk_far (blk_far (blk_far hC.out (p := ⟨B1, 0, none⟩) (Ne.symm g12) (.int .u64 0)) (p := ⟨B1, 1, none⟩) (Ne.symm g12) (.int .u64 0)) (p := ⟨B1, 2, none⟩) (Ne.symm g12) (.int .u64 0)) (p := ⟨B1, 3, none⟩) (Ne.symm g12) (.int .u64 0)) 0 (.string (⟨#[]⟩ : ByteArray)) rfl) 1 (.bool true) (cs' := #[.string (⟨#[]⟩ : ByteArray), .bool true]) rfl)
   have HB1 := Aside0.mk (below_set (j := 1) (v := .bool true) (below_set (j := 0) (v := .string (⟨#[]⟩ : ByteArray)) (below_set (j := 3) (v := .int .u64 0) (below_set (j := 2) (v := .int .u64 0) (below_set (j := 1) (v := .int .u64 0) (below_set (j := 0) (v := .int .u64 0) HB.out GB.out) GB.out) GB.out) GB.out) GC.out) GC.out)
   clear hA hB hC HB
   generalize ((((((w1.setCell ⟨B1, 0, none⟩ (.int .u64 0)).setCell ⟨B1, 1, none⟩ (.int .u64 0)).setCell ⟨B1, 2, none⟩ (.int .u64 0)).setCell ⟨B1, 3, none⟩ (.int .u64 0)).setCell ⟨B2, 0, none⟩ (.string (⟨#[]⟩ : ByteArray))).setCell ⟨B2, 1, none⟩ (.bool true)) = W9 at *
   have d0 := (blk_cell hB1.out 0).trans rfl
   have d1 := (blk_cell hB1.out 1).trans rfl
   have d2 := (blk_cell hB1.out 2).trans rfl
   have d3 := (blk_cell hB1.out 3).trans rfl
   have d4 := (blk_cell hC1.out 0).trans rfl
   have d5 := (blk_cell hC1.out 1).trans rfl
   refine bodyPost_ret (v := .tuple #[.agg #[.int .u64 0, .int .u64 0, .int .u64 0, .int .u64 0], .agg #[.string (⟨#[]⟩ : ByteArray), .bool true]]) (by simp [results, Try.results106, go_sem, hu, hu2, hu3, d0, d1, d2, d3, d4, d5]) rfl ⟨rfl, HB1.out⟩
  | true =>
   rw [if_pos rfl] at h
   simp only [Option.some.injEq, Prod.mk.injEq] at h
   obtain ⟨rfl, rfl, rfl, rfl, rfl, rfl⟩ := h
   go_wp2_with (go_at_call 92; refine (vec_Right.calls n0 n1 n2 n3 true _ A4.out).mono ?_; rintro e w1 ⟨rfl, hb⟩; clear fb0 fb1 fb2 fb3 cb0 cb1 cb2 cb3 fc0 fc1 cc0 cc1 ca0 ca1; have hA1 := Aside0.mk (blk_below hA.out hb); have hB1 := Aside0.mk (blk_below hB.out hb); have hC1 := Aside0.mk (blk_below hC.out hb); have HB1 := Aside0.mk (below_step HB.out hb); clear hA hB hC HB; clear hb; have hA := hA1; have hB := hB1; have hC := hC1; have HB := HB1; clear hA1 hB1 hC1 HB1; have fb0 := blk_frozen hB.out 0; have fb1 := blk_frozen hB.out 1; have fb2 := blk_frozen hB.out 2; have fb3 := blk_frozen hB.out 3; have cb0 := (blk_cell hB.out 0).trans rfl; have cb1 := (blk_cell hB.out 1).trans rfl; have cb2 := (blk_cell hB.out 2).trans rfl; have cb3 := (blk_cell hB.out 3).trans rfl; have fc0 := blk_frozen hC.out 0; have fc1 := blk_frozen hC.out 1; have cc0 := (blk_cell hC.out 0).trans rfl; have cc1 := (blk_cell hC.out 1).trans rfl; have ca0 := (blk_cell hA.out 0).trans rfl; have ca1 := (blk_cell hA.out 1).trans rfl)
   go_region
   go_wp2
   clear fb0 fb1 fb2 fb3 cb0 cb1 cb2 cb3 fc0 fc1 cc0 cc1 ca0 ca1
   have hB1 := Aside0.mk (blk_drew (blk_far (blk_far (blk_put (blk_put (blk_put (blk_put hB.out 0 (.int .u64 n0) rfl) 1 (.int .u64 n1) rfl) 2 (.int .u64 n2) rfl) 3 (.int .u64 n3) (cs' := #[.int .u64 n0, .int .u64 n1, .int .u64 n2, .int .u64 n3]) rfl) (p := ⟨B2, 0, none⟩) g12 (.string s4)) (p := ⟨B2, 1, none⟩) g12 (.bool false)))
   have hC1 := Aside0.mk (blk_drew (blk_put (blk_put (blk_far (blk_far (blk_far (blk_far hC.out (p := ⟨B1, 0, none⟩) (Ne.symm g12) (.int .u64 n0)) (p := ⟨B1, 1, none⟩) (Ne.symm g12) (.int .u64 n1)) (p := ⟨B1, 2, none⟩) (Ne.symm g12) (.int .u64 n2)) (p := ⟨B1, 3, none⟩) (Ne.symm g12) (.int .u64 n3)) 0 (.string s4) rfl) 1 (.bool false) (cs' := #[.string s4, .bool false]) rfl))
   have HB1 := Aside0.mk (below_drew1 (below_set (j := 1) (v := .bool false) (below_set (j := 0) (v := .string s4) (below_set (j := 3) (v := .int .u64 n3) (below_set (j := 2) (v := .int .u64 n2) (below_set (j := 1) (v := .int .u64 n1) (below_set (j := 0) (v := .int .u64 n0) HB.out GB.out) GB.out) GB.out) GB.out) GC.out) GC.out))
   clear hA hB hC HB
   generalize ((((((w1.setCell ⟨B1, 0, none⟩ (.int .u64 n0)).setCell ⟨B1, 1, none⟩ (.int .u64 n1)).setCell ⟨B1, 2, none⟩ (.int .u64 n2)).setCell ⟨B1, 3, none⟩ (.int .u64 n3)).setCell ⟨B2, 0, none⟩ (.string s4)).setCell ⟨B2, 1, none⟩ (.bool false)).drew = W9 at *
   have d0 := (blk_cell hB1.out 0).trans rfl
   have d1 := (blk_cell hB1.out 1).trans rfl
   have d2 := (blk_cell hB1.out 2).trans rfl
   have d3 := (blk_cell hB1.out 3).trans rfl
   have d4 := (blk_cell hC1.out 0).trans rfl
   have d5 := (blk_cell hC1.out 1).trans rfl
   refine bodyPost_ret (v := .tuple #[.agg #[.int .u64 n0, .int .u64 n1, .int .u64 n2, .int .u64 n3], .agg #[.string s4, .bool false]]) (by simp [results, Try.results106, go_sem, hu, hu2, hu3, d0, d1, d2, d3, d4, d5]) rfl ⟨rfl, HB1.out⟩
def stamp_Get.f (k : Nat) (a0_0 : ByteArray) (a0_1 : Bool) : Option (Int × Int × Int × Int × Int × ByteArray × Bool) := (pack_Reader_Number.f a0_0 a0_1 1).bind fun bt199 => ((vec_Get.f k bt199.2.1 bt199.2.2).bind fun bt202 => (if bt202.2.2.2.2.2 = true then (some (0, 0, 0, 0, 0, (⟨#[]⟩ : ByteArray), true)) else ((stamp_Right.f bt202.1 bt202.2.1 bt202.2.2.1 bt202.2.2.2.1 (wrap64 (bt199.1))).bind fun t210 => (if t210 = true then (some (bt202.1, bt202.2.1, bt202.2.2.1, bt202.2.2.2.1, wrap64 (bt199.1), bt202.2.2.2.2.1, bt202.2.2.2.2.2)) else (some (0, 0, 0, 0, 0, (⟨#[]⟩ : ByteArray), true))))))
set_option maxHeartbeats 8000000 in
set_option maxRecDepth 100000 in
theorem stamp_Get.calls (k : Nat) (a0_0 : ByteArray) (a0_1 : Bool) (r1 : Int) (r2 : Int) (r3 : Int) (r4 : Int) (r5 : Int) (r6 : ByteArray) (r7 : Bool) (w : World) (h : stamp_Get.f k a0_0 a0_1 = some (r1, r2, r3, r4, r5, r6, r7)) :
  Calls Try.prog 99 #[.agg #[.string a0_0, .bool a0_1]] w fun e w' => e = .returned (.tuple #[.agg #[.int .u64 r1, .int .u64 r2, .int .u64 r3, .int .u64 r4, .int .i64 r5], .agg #[.string r6, .bool r7]]) ∧ Below w.heap.size w w' := by
 have hu134 := Try.underlying134
 have hu30 := Try.underlying30
 have hu28 := Try.underlying28
 have HB := Aside0.mk (Below.refl w.heap.size w)
 have H : ((pack_Reader_Number.f a0_0 a0_1 1).bind fun bt199 => ((vec_Get.f k bt199.2.1 bt199.2.2).bind fun bt202 => (if bt202.2.2.2.2.2 = true then (some (0, 0, 0, 0, 0, (⟨#[]⟩ : ByteArray), true)) else ((stamp_Right.f bt202.1 bt202.2.1 bt202.2.2.1 bt202.2.2.2.1 (wrap64 (bt199.1))).bind fun t210 => (if t210 = true then (some (bt202.1, bt202.2.1, bt202.2.2.1, bt202.2.2.2.1, wrap64 (bt199.1), bt202.2.2.2.2.1, bt202.2.2.2.2.2)) else (some (0, 0, 0, 0, 0, (⟨#[]⟩ : ByteArray), true))))))) = some (r1, r2, r3, r4, r5, r6, r7) := h
 clear h
 replace H := Option.bind_eq_some_iff.mp H
 obtain ⟨⟨t199, t200, t201⟩, A20, H⟩ := H
 replace H : ((vec_Get.f k t200 t201).bind fun bt202 => (if bt202.2.2.2.2.2 = true then (some (0, 0, 0, 0, 0, (⟨#[]⟩ : ByteArray), true)) else ((stamp_Right.f bt202.1 bt202.2.1 bt202.2.2.1 bt202.2.2.2.1 (wrap64 (t199))).bind fun t210 => (if t210 = true then (some (bt202.1, bt202.2.1, bt202.2.2.1, bt202.2.2.2.1, wrap64 (t199), bt202.2.2.2.2.1, bt202.2.2.2.2.2)) else (some (0, 0, 0, 0, 0, (⟨#[]⟩ : ByteArray), true)))))) = some (r1, r2, r3, r4, r5, r6, r7) := H
 have A2 := Aside0.mk A20
 clear A20
 replace H := Option.bind_eq_some_iff.mp H
 obtain ⟨⟨t202, t203, t204, t205, t206, t207⟩, A30, H⟩ := H
 replace H : (if t207 = true then (some (0, 0, 0, 0, 0, (⟨#[]⟩ : ByteArray), true)) else ((stamp_Right.f t202 t203 t204 t205 (wrap64 (t199))).bind fun t210 => (if t210 = true then (some (t202, t203, t204, t205, wrap64 (t199), t206, t207)) else (some (0, 0, 0, 0, 0, (⟨#[]⟩ : ByteArray), true))))) = some (r1, r2, r3, r4, r5, r6, r7) := H
 have A3 := Aside0.mk A30
 clear A30
 by_cases c4 : t207 = true
 ·subst c4
  have H1 : (some (0, 0, 0, 0, 0, (⟨#[]⟩ : ByteArray), true)) = some (r1, r2, r3, r4, r5, r6, r7) := by rw [if_pos rfl] at H; exact H
  clear H
  have H := H1
  clear H1
  simp only [Option.some.injEq, Prod.mk.injEq] at H
  obtain ⟨rfl, rfl, rfl, rfl, rfl, rfl, rfl⟩ := H
  go_enter Try.func99, Try.ntmps99
  go_wp2_with (first | ((with_reducible refine gate_dst (N := 1) rfl ?_); refine Ka_ 1 #[.string a0_0, .bool a0_1] 134 ?_; intro gb196 hg w5 hbox hb; have BK196 := Aside0.mk (hbox); have GW196 := Kw_ HB hg; have GE196 := GW196; replace HB := Ks_ HB hb; clear hb hbox hg) | ((with_reducible refine gate_dst (N := 2) rfl ?_); refine Ka_ 2 #[.int .u64 0, .int .u64 0, .int .u64 0, .int .u64 0, .int .i64 0] 30 ?_; intro gb197 hg w6 hbox hb; have BK197 := Aside0.mk (hbox); have GW197 := Kw_ HB hg; have GE197 := GW197; have NB196_197 := Kl_ BK196 hg; have NB197_196 := Kr_ BK196 hg; replace BK196 := Kb_ BK196 hb; replace HB := Ks_ HB hb; clear hb hbox hg) | ((with_reducible refine gate_dst (N := 3) rfl ?_); refine Ka_ 3 #[.string (⟨#[]⟩ : ByteArray), .bool false] 134 ?_; intro gb198 hg w7 hbox hb; have BK198 := Aside0.mk (hbox); have GW198 := Kw_ HB hg; have GE198 := GW198; have NB196_198 := Kl_ BK196 hg; have NB198_196 := Kr_ BK196 hg; have NB197_198 := Kl_ BK197 hg; have NB198_197 := Kr_ BK197 hg; replace BK196 := Kb_ BK196 hb; replace BK197 := Kb_ BK197 hb; replace HB := Ks_ HB hb; clear hb hbox hg; have hnb8 := NB196_197.out; have hnc8 := NB197_196.out; have hnb9 := NB196_198.out; have hnc9 := NB198_196.out; obtain ⟨hcz10_0, hcz10_1, hfz10_0, hfz10_1⟩ := Ke2_ BK196.out) | ((with_reducible refine gate_callee (f := 75) rfl ?_); refine Kg_ (some 9) rfl rfl Try.func75 (by kernel_rfl) rfl #[.agg #[.string a0_0, .bool a0_1], .int .i64 1] rfl ?_; (with_reducible refine (pack_Reader_Number.calls a0_0 a0_1 1 t199 t200 t201 _ A2.out).mono ?_); rintro e w11 ⟨rfl, hb⟩; refine ⟨_, rfl, ?_⟩; replace BK196 := Kb_ BK196 hb; replace BK197 := Kb_ BK197 hb; replace BK198 := Kb_ BK198 hb; replace HB := Ks_ HB hb; (try clear hb); (try clear hb2); (try clear hk); (try clear hi); obtain ⟨hcz12_0, hcz12_1, hfz12_0, hfz12_1⟩ := Ke2_ BK196.out) | ((with_reducible refine gate_callee (f := 106) rfl ?_); refine Kg_ (some 14) rfl rfl Try.func106 (by kernel_rfl) rfl #[.agg #[.string t200, .bool t201]] rfl ?_; (with_reducible refine (vec_Get.calls k t200 t201 t202 t203 t204 t205 t206 true _ A3.out).mono ?_); rintro e w13 ⟨rfl, hb⟩; refine ⟨_, rfl, ?_⟩; replace BK196 := Aside0.mk (blk_below (g := gb196) (o := .cells #[.string t200, .bool t201] 134 (0, 0)) (by refine Kv_ ?_; refine blk_put (cs := #[.string t200, .bool a0_1]) ?_ 1 _ rfl; refine Kv_ ?_; refine blk_put (cs := #[.string a0_0, .bool a0_1]) ?_ 0 _ rfl; exact Kq_ BK196) hb); replace BK197 := Kf_ BK197 NB197_196 hb; replace BK198 := Kf_ BK198 NB198_196 hb; replace HB := Kt_ HB GE196 hb; (try clear hb); (try clear hb2); (try clear hk); (try clear hi)) | ((with_reducible refine gate_dst (N := 5) rfl ?_); refine Ka_ 5 #[.int .u64 0, .int .u64 0, .int .u64 0, .int .u64 0] 28 ?_; intro gb208 hg w14 hbox hb; have BK208 := Aside0.mk (hbox); have GW208 := Kw_ HB hg; have GE208 := GW208; have NB196_208 := Kl_ BK196 hg; have NB208_196 := Kr_ BK196 hg; have NB197_208 := Kl_ BK197 hg; have NB208_197 := Kr_ BK197 hg; have NB198_208 := Kl_ BK198 hg; have NB208_198 := Kr_ BK198 hg; replace BK196 := Kb_ BK196 hb; replace BK197 := Kb_ BK197 hb; replace BK198 := Kb_ BK198 hb; replace HB := Ks_ HB hb; clear hb hbox hg; have hnb15 := NB208_196.out; have hnc15 := NB196_208.out; have hnb16 := NB208_197.out; have hnc16 := NB197_208.out; have hnb17 := NB208_198.out; have hnc17 := NB198_208.out; obtain ⟨hcz18_0, hcz18_1, hcz18_2, hcz18_3, hfz18_0, hfz18_1, hfz18_2, hfz18_3⟩ := Ke4_ BK208.out; obtain ⟨hcz19_0, hcz19_1, hfz19_0, hfz19_1⟩ := Ke2_ BK196.out) | ((with_reducible refine gate_dst (N := 6) rfl ?_); refine Ka_ 6 #[.int .u64 0, .int .u64 0, .int .u64 0, .int .u64 0, .int .i64 0] 30 ?_; intro gb209 hg w20 hbox hb; have BK209 := Aside0.mk (hbox); have GW209 := Aside0.mk ((by rw [hg]; exact (below_size (K4a_ HB GE196 GE197 GE198 GE208)) : w.heap.size ≤ gb209)); have GE209 := GW209; have NB196_209 := Aside0.mk ((by rw [hg]; exact Nat.ne_of_lt (blk_lt (g := gb196) (o := .cells #[.string t206, .bool true] 134 (0, 0)) (by refine Kv_ ?_; refine blk_put (cs := #[.string t206, .bool t201]) ?_ 1 _ rfl; refine Kv_ ?_; refine blk_put (cs := #[.string t200, .bool t201]) ?_ 0 _ rfl; exact K1b_ BK196 NB196_208)) : gb196 ≠ gb209)); have NB209_196 := Aside0.mk ((by rw [hg]; exact Nat.ne_of_gt (blk_lt (g := gb196) (o := .cells #[.string t206, .bool true] 134 (0, 0)) (by refine Kv_ ?_; refine blk_put (cs := #[.string t206, .bool t201]) ?_ 1 _ rfl; refine Kv_ ?_; refine blk_put (cs := #[.string t200, .bool t201]) ?_ 0 _ rfl; exact K1b_ BK196 NB196_208)) : gb209 ≠ gb196)); have NB197_209 := Aside0.mk ((by rw [hg]; exact Nat.ne_of_lt (blk_lt (g := gb197) (o := .cells #[.int .u64 0, .int .u64 0, .int .u64 0, .int .u64 0, .int .i64 0] 30 (0, 0)) (K2b_ BK197 NB197_196 NB197_208)) : gb197 ≠ gb209)); have NB209_197 := Aside0.mk ((by rw [hg]; exact Nat.ne_of_gt (blk_lt (g := gb197) (o := .cells #[.int .u64 0, .int .u64 0, .int .u64 0, .int .u64 0, .int .i64 0] 30 (0, 0)) (K2b_ BK197 NB197_196 NB197_208)) : gb209 ≠ gb197)); have NB198_209 := Aside0.mk ((by rw [hg]; exact Nat.ne_of_lt (blk_lt (g := gb198) (o := .cells #[.string (⟨#[]⟩ : ByteArray), .bool false] 134 (0, 0)) (K2b_ BK198 NB198_196 NB198_208)) : gb198 ≠ gb209)); have NB209_198 := Aside0.mk ((by rw [hg]; exact Nat.ne_of_gt (blk_lt (g := gb198) (o := .cells #[.string (⟨#[]⟩ : ByteArray), .bool false] 134 (0, 0)) (K2b_ BK198 NB198_196 NB198_208)) : gb209 ≠ gb198)); have NB208_209 := Aside0.mk ((by rw [hg]; exact Nat.ne_of_lt (blk_lt (g := gb208) (o := .cells #[.int .u64 t202, .int .u64 t203, .int .u64 t204, .int .u64 t205] 28 (0, 0)) (by (repeat (first | (with_reducible first | refine blk_drewN ?_ _ | refine blk_drew ?_ | refine blk_alloc ?_ _) | refine blk_far ?_ NB208_196.out _)); refine blk_put (cs := #[.int .u64 t202, .int .u64 t203, .int .u64 t204, .int .u64 0]) ?_ 3 _ rfl; refine Kv_ ?_; refine blk_put (cs := #[.int .u64 t202, .int .u64 t203, .int .u64 0, .int .u64 0]) ?_ 2 _ rfl; refine Kv_ ?_; refine blk_put (cs := #[.int .u64 t202, .int .u64 0, .int .u64 0, .int .u64 0]) ?_ 1 _ rfl; refine Kv_ ?_; refine blk_put (cs := #[.int .u64 0, .int .u64 0, .int .u64 0, .int .u64 0]) ?_ 0 _ rfl; exact Kq_ BK208)) : gb208 ≠ gb209)); have NB209_208 := Aside0.mk ((by rw [hg]; exact Nat.ne_of_gt (blk_lt (g := gb208) (o := .cells #[.int .u64 t202, .int .u64 t203, .int .u64 t204, .int .u64 t205] 28 (0, 0)) (by (repeat (first | (with_reducible first | refine blk_drewN ?_ _ | refine blk_drew ?_ | refine blk_alloc ?_ _) | refine blk_far ?_ NB208_196.out _)); refine blk_put (cs := #[.int .u64 t202, .int .u64 t203, .int .u64 t204, .int .u64 0]) ?_ 3 _ rfl; refine Kv_ ?_; refine blk_put (cs := #[.int .u64 t202, .int .u64 t203, .int .u64 0, .int .u64 0]) ?_ 2 _ rfl; refine Kv_ ?_; refine blk_put (cs := #[.int .u64 t202, .int .u64 0, .int .u64 0, .int .u64 0]) ?_ 1 _ rfl; refine Kv_ ?_; refine blk_put (cs := #[.int .u64 0, .int .u64 0, .int .u64 0, .int .u64 0]) ?_ 0 _ rfl; exact Kq_ BK208)) : gb209 ≠ gb208)); replace BK196 := Aside0.mk (blk_below (g := gb196) (o := .cells #[.string t206, .bool true] 134 (0, 0)) (by refine Kv_ ?_; refine blk_put (cs := #[.string t206, .bool t201]) ?_ 1 _ rfl; refine Kv_ ?_; refine blk_put (cs := #[.string t200, .bool t201]) ?_ 0 _ rfl; exact K1b_ BK196 NB196_208) hb); replace BK197 := Aside0.mk (blk_below (g := gb197) (o := .cells #[.int .u64 0, .int .u64 0, .int .u64 0, .int .u64 0, .int .i64 0] 30 (0, 0)) (K2b_ BK197 NB197_196 NB197_208) hb); replace BK198 := Aside0.mk (blk_below (g := gb198) (o := .cells #[.string (⟨#[]⟩ : ByteArray), .bool false] 134 (0, 0)) (K2b_ BK198 NB198_196 NB198_208) hb); replace BK208 := Aside0.mk (blk_below (g := gb208) (o := .cells #[.int .u64 t202, .int .u64 t203, .int .u64 t204, .int .u64 t205] 28 (0, 0)) (by (repeat (first | (with_reducible first | refine blk_drewN ?_ _ | refine blk_drew ?_ | refine blk_alloc ?_ _) | refine blk_far ?_ NB208_196.out _)); refine blk_put (cs := #[.int .u64 t202, .int .u64 t203, .int .u64 t204, .int .u64 0]) ?_ 3 _ rfl; refine Kv_ ?_; refine blk_put (cs := #[.int .u64 t202, .int .u64 t203, .int .u64 0, .int .u64 0]) ?_ 2 _ rfl; refine Kv_ ?_; refine blk_put (cs := #[.int .u64 t202, .int .u64 0, .int .u64 0, .int .u64 0]) ?_ 1 _ rfl; refine Kv_ ?_; refine blk_put (cs := #[.int .u64 0, .int .u64 0, .int .u64 0, .int .u64 0]) ?_ 0 _ rfl; exact Kq_ BK208) hb); replace HB := Aside0.mk (below_step (K4a_ HB GE196 GE197 GE198 GE208) hb); clear hb hbox hg; have hnb21 := NB209_196.out; have hnc21 := NB196_209.out; have hnb22 := NB209_197.out; have hnc22 := NB197_209.out; have hnb23 := NB209_198.out; have hnc23 := NB198_209.out; have hnb24 := NB209_208.out; have hnc24 := NB208_209.out; obtain ⟨hcz25_0, hcz25_1, hcz25_2, hcz25_3, hcz25_4, hfz25_0, hfz25_1, hfz25_2, hfz25_3, hfz25_4⟩ := Ke5_ BK209.out; obtain ⟨hcz26_0, hcz26_1, hfz26_0, hfz26_1⟩ := Ke2_ BK196.out; have hnb27 := NB197_198.out; have hnc27 := NB198_197.out; obtain ⟨hcz28_0, hcz28_1, hcz28_2, hcz28_3, hcz28_4, hfz28_0, hfz28_1, hfz28_2, hfz28_3, hfz28_4⟩ := Ke5_ BK197.out; obtain ⟨hcz29_0, hcz29_1, hfz29_0, hfz29_1⟩ := Ke2_ BK198.out))
  refine bodyPost_ret (results_cc rfl _ _ gb197 gb198 30 134 #[.int .u64 0, .int .u64 0, .int .u64 0, .int .u64 0, .int .i64 0] #[.string (⟨#[]⟩ : ByteArray), .bool true] (0, 0) (0, 0) _ _ rfl (by (repeat (first | (with_reducible first | refine blk_drewN ?_ _ | refine blk_drew ?_ | refine blk_alloc ?_ _) | refine blk_far ?_ NB197_198.out _)); refine blk_put (cs := #[.int .u64 0, .int .u64 0, .int .u64 0, .int .u64 0, .int .i64 0]) ?_ 4 _ rfl; refine Kv_ ?_; refine blk_put (cs := #[.int .u64 0, .int .u64 0, .int .u64 0, .int .u64 0, .int .i64 0]) ?_ 3 _ rfl; refine Kv_ ?_; refine blk_put (cs := #[.int .u64 0, .int .u64 0, .int .u64 0, .int .u64 0, .int .i64 0]) ?_ 2 _ rfl; refine Kv_ ?_; refine blk_put (cs := #[.int .u64 0, .int .u64 0, .int .u64 0, .int .u64 0, .int .i64 0]) ?_ 1 _ rfl; refine Kv_ ?_; refine blk_put (cs := #[.int .u64 0, .int .u64 0, .int .u64 0, .int .u64 0, .int .i64 0]) ?_ 0 _ rfl; exact K1b_ BK197 NB197_209) Try.underlying30 rfl (by kernel_rfl) rfl (by refine Kv_ ?_; refine blk_put (cs := #[.string (⟨#[]⟩ : ByteArray), .bool false]) ?_ 1 _ rfl; refine Kv_ ?_; refine blk_put (cs := #[.string (⟨#[]⟩ : ByteArray), .bool false]) ?_ 0 _ rfl; exact K2b_ BK198 NB198_197 NB198_209) Try.underlying134 rfl (by kernel_rfl)) rfl ?_
  exact ⟨Kh_, by repeat (first | (with_reducible first | exact HB.out | apply below_alloc | apply pw_below_drewN | apply below_drew1 | refine below_set ?_ GE196.out | refine below_set ?_ GE197.out | refine below_set ?_ GE198.out | refine below_set ?_ GE208.out | refine below_set ?_ GE209.out) | exact HB.out)⟩
 replace c4 := Bool.eq_false_iff.mpr c4
 subst c4
 have H1 : ((stamp_Right.f t202 t203 t204 t205 (wrap64 (t199))).bind fun t210 => (if t210 = true then (some (t202, t203, t204, t205, wrap64 (t199), t206, false)) else (some (0, 0, 0, 0, 0, (⟨#[]⟩ : ByteArray), true)))) = some (r1, r2, r3, r4, r5, r6, r7) := by rw [if_neg (show ¬ (false = true) by decide)] at H; exact H
 clear H
 have H := H1
 clear H1
 replace H := Option.bind_eq_some_iff.mp H
 obtain ⟨t210, A300, H⟩ := H
 replace H : (if t210 = true then (some (t202, t203, t204, t205, wrap64 (t199), t206, false)) else (some (0, 0, 0, 0, 0, (⟨#[]⟩ : ByteArray), true))) = some (r1, r2, r3, r4, r5, r6, r7) := H
 have A30 := Aside0.mk A300
 clear A300
 by_cases c31 : t210 = true
 rotate_left
 ·replace c31 := Bool.eq_false_iff.mpr c31
  subst c31
  have H1 : (some (0, 0, 0, 0, 0, (⟨#[]⟩ : ByteArray), true)) = some (r1, r2, r3, r4, r5, r6, r7) := by rw [if_neg (show ¬ (false = true) by decide)] at H; exact H
  clear H
  have H := H1
  clear H1
  simp only [Option.some.injEq, Prod.mk.injEq] at H
  obtain ⟨rfl, rfl, rfl, rfl, rfl, rfl, rfl⟩ := H
  go_enter Try.func99, Try.ntmps99
  go_wp2_with (first | ((with_reducible refine gate_dst (N := 1) rfl ?_); refine Ka_ 1 #[.string a0_0, .bool a0_1] 134 ?_; intro gb196 hg w63 hbox hb; have BK196 := Aside0.mk (hbox); have GW196 := Kw_ HB hg; have GE196 := GW196; replace HB := Ks_ HB hb; clear hb hbox hg) | ((with_reducible refine gate_dst (N := 2) rfl ?_); refine Ka_ 2 #[.int .u64 0, .int .u64 0, .int .u64 0, .int .u64 0, .int .i64 0] 30 ?_; intro gb197 hg w64 hbox hb; have BK197 := Aside0.mk (hbox); have GW197 := Kw_ HB hg; have GE197 := GW197; have NB196_197 := Kl_ BK196 hg; have NB197_196 := Kr_ BK196 hg; replace BK196 := Kb_ BK196 hb; replace HB := Ks_ HB hb; clear hb hbox hg) | ((with_reducible refine gate_dst (N := 3) rfl ?_); refine Ka_ 3 #[.string (⟨#[]⟩ : ByteArray), .bool false] 134 ?_; intro gb198 hg w65 hbox hb; have BK198 := Aside0.mk (hbox); have GW198 := Kw_ HB hg; have GE198 := GW198; have NB196_198 := Kl_ BK196 hg; have NB198_196 := Kr_ BK196 hg; have NB197_198 := Kl_ BK197 hg; have NB198_197 := Kr_ BK197 hg; replace BK196 := Kb_ BK196 hb; replace BK197 := Kb_ BK197 hb; replace HB := Ks_ HB hb; clear hb hbox hg; have hnb66 := NB196_197.out; have hnc66 := NB197_196.out; have hnb67 := NB196_198.out; have hnc67 := NB198_196.out; obtain ⟨hcz68_0, hcz68_1, hfz68_0, hfz68_1⟩ := Ke2_ BK196.out) | ((with_reducible refine gate_callee (f := 75) rfl ?_); refine Kg_ (some 9) rfl rfl Try.func75 (by kernel_rfl) rfl #[.agg #[.string a0_0, .bool a0_1], .int .i64 1] rfl ?_; (with_reducible refine (pack_Reader_Number.calls a0_0 a0_1 1 t199 t200 t201 _ A2.out).mono ?_); rintro e w69 ⟨rfl, hb⟩; refine ⟨_, rfl, ?_⟩; replace BK196 := Kb_ BK196 hb; replace BK197 := Kb_ BK197 hb; replace BK198 := Kb_ BK198 hb; replace HB := Ks_ HB hb; (try clear hb); (try clear hb2); (try clear hk); (try clear hi); obtain ⟨hcz70_0, hcz70_1, hfz70_0, hfz70_1⟩ := Ke2_ BK196.out) | ((with_reducible refine gate_callee (f := 106) rfl ?_); refine Kg_ (some 14) rfl rfl Try.func106 (by kernel_rfl) rfl #[.agg #[.string t200, .bool t201]] rfl ?_; (with_reducible refine (vec_Get.calls k t200 t201 t202 t203 t204 t205 t206 false _ A3.out).mono ?_); rintro e w71 ⟨rfl, hb⟩; refine ⟨_, rfl, ?_⟩; replace BK196 := Aside0.mk (blk_below (g := gb196) (o := .cells #[.string t200, .bool t201] 134 (0, 0)) (by refine Kv_ ?_; refine blk_put (cs := #[.string t200, .bool a0_1]) ?_ 1 _ rfl; refine Kv_ ?_; refine blk_put (cs := #[.string a0_0, .bool a0_1]) ?_ 0 _ rfl; exact Kq_ BK196) hb); replace BK197 := Kf_ BK197 NB197_196 hb; replace BK198 := Kf_ BK198 NB198_196 hb; replace HB := Kt_ HB GE196 hb; (try clear hb); (try clear hb2); (try clear hk); (try clear hi)) | ((with_reducible refine gate_dst (N := 5) rfl ?_); refine Ka_ 5 #[.int .u64 0, .int .u64 0, .int .u64 0, .int .u64 0] 28 ?_; intro gb208 hg w72 hbox hb; have BK208 := Aside0.mk (hbox); have GW208 := Kw_ HB hg; have GE208 := GW208; have NB196_208 := Kl_ BK196 hg; have NB208_196 := Kr_ BK196 hg; have NB197_208 := Kl_ BK197 hg; have NB208_197 := Kr_ BK197 hg; have NB198_208 := Kl_ BK198 hg; have NB208_198 := Kr_ BK198 hg; replace BK196 := Kb_ BK196 hb; replace BK197 := Kb_ BK197 hb; replace BK198 := Kb_ BK198 hb; replace HB := Ks_ HB hb; clear hb hbox hg; have hnb73 := NB208_196.out; have hnc73 := NB196_208.out; have hnb74 := NB208_197.out; have hnc74 := NB197_208.out; have hnb75 := NB208_198.out; have hnc75 := NB198_208.out; obtain ⟨hcz76_0, hcz76_1, hcz76_2, hcz76_3, hfz76_0, hfz76_1, hfz76_2, hfz76_3⟩ := Ke4_ BK208.out; obtain ⟨hcz77_0, hcz77_1, hfz77_0, hfz77_1⟩ := Ke2_ BK196.out) | ((with_reducible refine gate_dst (N := 6) rfl ?_); refine Ka_ 6 #[.int .u64 0, .int .u64 0, .int .u64 0, .int .u64 0, .int .i64 0] 30 ?_; intro gb209 hg w78 hbox hb; have BK209 := Aside0.mk (hbox); have GW209 := Aside0.mk ((by rw [hg]; exact (below_size (K4a_ HB GE196 GE197 GE198 GE208)) : w.heap.size ≤ gb209)); have GE209 := GW209; have NB196_209 := Aside0.mk ((by rw [hg]; exact Nat.ne_of_lt (blk_lt (g := gb196) (o := .cells #[.string t206, .bool false] 134 (0, 0)) (by refine Kv_ ?_; refine blk_put (cs := #[.string t206, .bool t201]) ?_ 1 _ rfl; refine Kv_ ?_; refine blk_put (cs := #[.string t200, .bool t201]) ?_ 0 _ rfl; exact K1b_ BK196 NB196_208)) : gb196 ≠ gb209)); have NB209_196 := Aside0.mk ((by rw [hg]; exact Nat.ne_of_gt (blk_lt (g := gb196) (o := .cells #[.string t206, .bool false] 134 (0, 0)) (by refine Kv_ ?_; refine blk_put (cs := #[.string t206, .bool t201]) ?_ 1 _ rfl; refine Kv_ ?_; refine blk_put (cs := #[.string t200, .bool t201]) ?_ 0 _ rfl; exact K1b_ BK196 NB196_208)) : gb209 ≠ gb196)); have NB197_209 := Aside0.mk ((by rw [hg]; exact Nat.ne_of_lt (blk_lt (g := gb197) (o := .cells #[.int .u64 0, .int .u64 0, .int .u64 0, .int .u64 0, .int .i64 0] 30 (0, 0)) (K2b_ BK197 NB197_196 NB197_208)) : gb197 ≠ gb209)); have NB209_197 := Aside0.mk ((by rw [hg]; exact Nat.ne_of_gt (blk_lt (g := gb197) (o := .cells #[.int .u64 0, .int .u64 0, .int .u64 0, .int .u64 0, .int .i64 0] 30 (0, 0)) (K2b_ BK197 NB197_196 NB197_208)) : gb209 ≠ gb197)); have NB198_209 := Aside0.mk ((by rw [hg]; exact Nat.ne_of_lt (blk_lt (g := gb198) (o := .cells #[.string (⟨#[]⟩ : ByteArray), .bool false] 134 (0, 0)) (K2b_ BK198 NB198_196 NB198_208)) : gb198 ≠ gb209)); have NB209_198 := Aside0.mk ((by rw [hg]; exact Nat.ne_of_gt (blk_lt (g := gb198) (o := .cells #[.string (⟨#[]⟩ : ByteArray), .bool false] 134 (0, 0)) (K2b_ BK198 NB198_196 NB198_208)) : gb209 ≠ gb198)); have NB208_209 := Aside0.mk ((by rw [hg]; exact Nat.ne_of_lt (blk_lt (g := gb208) (o := .cells #[.int .u64 t202, .int .u64 t203, .int .u64 t204, .int .u64 t205] 28 (0, 0)) (by (repeat (first | (with_reducible first | refine blk_drewN ?_ _ | refine blk_drew ?_ | refine blk_alloc ?_ _) | refine blk_far ?_ NB208_196.out _)); refine blk_put (cs := #[.int .u64 t202, .int .u64 t203, .int .u64 t204, .int .u64 0]) ?_ 3 _ rfl; refine Kv_ ?_; refine blk_put (cs := #[.int .u64 t202, .int .u64 t203, .int .u64 0, .int .u64 0]) ?_ 2 _ rfl; refine Kv_ ?_; refine blk_put (cs := #[.int .u64 t202, .int .u64 0, .int .u64 0, .int .u64 0]) ?_ 1 _ rfl; refine Kv_ ?_; refine blk_put (cs := #[.int .u64 0, .int .u64 0, .int .u64 0, .int .u64 0]) ?_ 0 _ rfl; exact Kq_ BK208)) : gb208 ≠ gb209)); have NB209_208 := Aside0.mk ((by rw [hg]; exact Nat.ne_of_gt (blk_lt (g := gb208) (o := .cells #[.int .u64 t202, .int .u64 t203, .int .u64 t204, .int .u64 t205] 28 (0, 0)) (by (repeat (first | (with_reducible first | refine blk_drewN ?_ _ | refine blk_drew ?_ | refine blk_alloc ?_ _) | refine blk_far ?_ NB208_196.out _)); refine blk_put (cs := #[.int .u64 t202, .int .u64 t203, .int .u64 t204, .int .u64 0]) ?_ 3 _ rfl; refine Kv_ ?_; refine blk_put (cs := #[.int .u64 t202, .int .u64 t203, .int .u64 0, .int .u64 0]) ?_ 2 _ rfl; refine Kv_ ?_; refine blk_put (cs := #[.int .u64 t202, .int .u64 0, .int .u64 0, .int .u64 0]) ?_ 1 _ rfl; refine Kv_ ?_; refine blk_put (cs := #[.int .u64 0, .int .u64 0, .int .u64 0, .int .u64 0]) ?_ 0 _ rfl; exact Kq_ BK208)) : gb209 ≠ gb208)); replace BK196 := Aside0.mk (blk_below (g := gb196) (o := .cells #[.string t206, .bool false] 134 (0, 0)) (by refine Kv_ ?_; refine blk_put (cs := #[.string t206, .bool t201]) ?_ 1 _ rfl; refine Kv_ ?_; refine blk_put (cs := #[.string t200, .bool t201]) ?_ 0 _ rfl; exact K1b_ BK196 NB196_208) hb); replace BK197 := Aside0.mk (blk_below (g := gb197) (o := .cells #[.int .u64 0, .int .u64 0, .int .u64 0, .int .u64 0, .int .i64 0] 30 (0, 0)) (K2b_ BK197 NB197_196 NB197_208) hb); replace BK198 := Aside0.mk (blk_below (g := gb198) (o := .cells #[.string (⟨#[]⟩ : ByteArray), .bool false] 134 (0, 0)) (K2b_ BK198 NB198_196 NB198_208) hb); replace BK208 := Aside0.mk (blk_below (g := gb208) (o := .cells #[.int .u64 t202, .int .u64 t203, .int .u64 t204, .int .u64 t205] 28 (0, 0)) (by (repeat (first | (with_reducible first | refine blk_drewN ?_ _ | refine blk_drew ?_ | refine blk_alloc ?_ _) | refine blk_far ?_ NB208_196.out _)); refine blk_put (cs := #[.int .u64 t202, .int .u64 t203, .int .u64 t204, .int .u64 0]) ?_ 3 _ rfl; refine Kv_ ?_; refine blk_put (cs := #[.int .u64 t202, .int .u64 t203, .int .u64 0, .int .u64 0]) ?_ 2 _ rfl; refine Kv_ ?_; refine blk_put (cs := #[.int .u64 t202, .int .u64 0, .int .u64 0, .int .u64 0]) ?_ 1 _ rfl; refine Kv_ ?_; refine blk_put (cs := #[.int .u64 0, .int .u64 0, .int .u64 0, .int .u64 0]) ?_ 0 _ rfl; exact Kq_ BK208) hb); replace HB := Aside0.mk (below_step (K4a_ HB GE196 GE197 GE198 GE208) hb); clear hb hbox hg; have hnb79 := NB209_196.out; have hnc79 := NB196_209.out; have hnb80 := NB209_197.out; have hnc80 := NB197_209.out; have hnb81 := NB209_198.out; have hnc81 := NB198_209.out; have hnb82 := NB209_208.out; have hnc82 := NB208_209.out; obtain ⟨hcz83_0, hcz83_1, hcz83_2, hcz83_3, hcz83_4, hfz83_0, hfz83_1, hfz83_2, hfz83_3, hfz83_4⟩ := Ke5_ BK209.out; obtain ⟨hcz84_0, hcz84_1, hfz84_0, hfz84_1⟩ := Ke2_ BK196.out) | (go_at_call 69; (with_reducible refine (stamp_Right.calls t202 t203 t204 t205 (wrap64 (t199)) false _ A30.out).mono ?_); rintro e w85 ⟨rfl, hb⟩; replace BK196 := Kf_ BK196 NB196_209 hb; replace BK197 := Kf_ BK197 NB197_209 hb; replace BK198 := Kf_ BK198 NB198_209 hb; replace BK208 := Kf_ BK208 NB208_209 hb; replace BK209 := Aside0.mk (blk_below (g := gb209) (o := .cells #[.int .u64 t202, .int .u64 t203, .int .u64 t204, .int .u64 t205, .int .i64 (wrap64 (t199))] 30 (0, 0)) (by refine Kv_ ?_; refine blk_put (cs := #[.int .u64 t202, .int .u64 t203, .int .u64 t204, .int .u64 t205, .int .i64 0]) ?_ 4 _ rfl; refine Kv_ ?_; refine blk_put (cs := #[.int .u64 t202, .int .u64 t203, .int .u64 t204, .int .u64 0, .int .i64 0]) ?_ 3 _ rfl; refine Kv_ ?_; refine blk_put (cs := #[.int .u64 t202, .int .u64 t203, .int .u64 0, .int .u64 0, .int .i64 0]) ?_ 2 _ rfl; refine Kv_ ?_; refine blk_put (cs := #[.int .u64 t202, .int .u64 0, .int .u64 0, .int .u64 0, .int .i64 0]) ?_ 1 _ rfl; refine Kv_ ?_; refine blk_put (cs := #[.int .u64 0, .int .u64 0, .int .u64 0, .int .u64 0, .int .i64 0]) ?_ 0 _ rfl; exact Kq_ BK209) hb); replace HB := Kt_ HB GE209 hb; (try clear hb); (try clear hb2); (try clear hk); (try clear hi); have hnb86 := NB197_198.out; have hnc86 := NB198_197.out; obtain ⟨hcz87_0, hcz87_1, hcz87_2, hcz87_3, hcz87_4, hfz87_0, hfz87_1, hfz87_2, hfz87_3, hfz87_4⟩ := Ke5_ BK197.out; obtain ⟨hcz88_0, hcz88_1, hfz88_0, hfz88_1⟩ := Ke2_ BK198.out))
  refine bodyPost_ret (results_cc rfl _ _ gb197 gb198 30 134 #[.int .u64 0, .int .u64 0, .int .u64 0, .int .u64 0, .int .i64 0] #[.string (⟨#[]⟩ : ByteArray), .bool true] (0, 0) (0, 0) _ _ rfl (by (repeat (first | (with_reducible first | refine blk_drewN ?_ _ | refine blk_drew ?_ | refine blk_alloc ?_ _) | refine blk_far ?_ NB197_198.out _)); refine blk_put (cs := #[.int .u64 0, .int .u64 0, .int .u64 0, .int .u64 0, .int .i64 0]) ?_ 4 _ rfl; refine Kv_ ?_; refine blk_put (cs := #[.int .u64 0, .int .u64 0, .int .u64 0, .int .u64 0, .int .i64 0]) ?_ 3 _ rfl; refine Kv_ ?_; refine blk_put (cs := #[.int .u64 0, .int .u64 0, .int .u64 0, .int .u64 0, .int .i64 0]) ?_ 2 _ rfl; refine Kv_ ?_; refine blk_put (cs := #[.int .u64 0, .int .u64 0, .int .u64 0, .int .u64 0, .int .i64 0]) ?_ 1 _ rfl; refine Kv_ ?_; refine blk_put (cs := #[.int .u64 0, .int .u64 0, .int .u64 0, .int .u64 0, .int .i64 0]) ?_ 0 _ rfl; exact Kq_ BK197) Try.underlying30 rfl (by kernel_rfl) rfl (by refine Kv_ ?_; refine blk_put (cs := #[.string (⟨#[]⟩ : ByteArray), .bool false]) ?_ 1 _ rfl; refine Kv_ ?_; refine blk_put (cs := #[.string (⟨#[]⟩ : ByteArray), .bool false]) ?_ 0 _ rfl; exact K1b_ BK198 NB198_197) Try.underlying134 rfl (by kernel_rfl)) rfl ?_
  exact ⟨Kh_, by repeat (first | (with_reducible first | exact HB.out | apply below_alloc | apply pw_below_drewN | apply below_drew1 | refine below_set ?_ GE196.out | refine below_set ?_ GE197.out | refine below_set ?_ GE198.out | refine below_set ?_ GE208.out | refine below_set ?_ GE209.out) | exact HB.out)⟩
 subst c31
 have H1 : (some (t202, t203, t204, t205, wrap64 (t199), t206, false)) = some (r1, r2, r3, r4, r5, r6, r7) := by rw [if_pos rfl] at H; exact H
 clear H
 have H := H1
 clear H1
 simp only [Option.some.injEq, Prod.mk.injEq] at H
 obtain ⟨rfl, rfl, rfl, rfl, rfl, rfl, rfl⟩ := H
 go_enter Try.func99, Try.ntmps99
 try go_wp2_with (first | ((with_reducible refine gate_dst (N := 1) rfl ?_); refine Ka_ 1 #[.string a0_0, .bool a0_1] 134 ?_; intro gb196 hg w32 hbox hb; have BK196 := Aside0.mk (hbox); have GW196 := Kw_ HB hg; have GE196 := GW196; replace HB := Ks_ HB hb; clear hb hbox hg) | ((with_reducible refine gate_dst (N := 2) rfl ?_); refine Ka_ 2 #[.int .u64 0, .int .u64 0, .int .u64 0, .int .u64 0, .int .i64 0] 30 ?_; intro gb197 hg w33 hbox hb; have BK197 := Aside0.mk (hbox); have GW197 := Kw_ HB hg; have GE197 := GW197; have NB196_197 := Kl_ BK196 hg; have NB197_196 := Kr_ BK196 hg; replace BK196 := Kb_ BK196 hb; replace HB := Ks_ HB hb; clear hb hbox hg) | ((with_reducible refine gate_dst (N := 3) rfl ?_); refine Ka_ 3 #[.string (⟨#[]⟩ : ByteArray), .bool false] 134 ?_; intro gb198 hg w34 hbox hb; have BK198 := Aside0.mk (hbox); have GW198 := Kw_ HB hg; have GE198 := GW198; have NB196_198 := Kl_ BK196 hg; have NB198_196 := Kr_ BK196 hg; have NB197_198 := Kl_ BK197 hg; have NB198_197 := Kr_ BK197 hg; replace BK196 := Kb_ BK196 hb; replace BK197 := Kb_ BK197 hb; replace HB := Ks_ HB hb; clear hb hbox hg; have hnb35 := NB196_197.out; have hnc35 := NB197_196.out; have hnb36 := NB196_198.out; have hnc36 := NB198_196.out; obtain ⟨hcz37_0, hcz37_1, hfz37_0, hfz37_1⟩ := Ke2_ BK196.out) | ((with_reducible refine gate_callee (f := 75) rfl ?_); refine Kg_ (some 9) rfl rfl Try.func75 (by kernel_rfl) rfl #[.agg #[.string a0_0, .bool a0_1], .int .i64 1] rfl ?_; (with_reducible refine (pack_Reader_Number.calls a0_0 a0_1 1 t199 t200 t201 _ A2.out).mono ?_); rintro e w38 ⟨rfl, hb⟩; refine ⟨_, rfl, ?_⟩; replace BK196 := Kb_ BK196 hb; replace BK197 := Kb_ BK197 hb; replace BK198 := Kb_ BK198 hb; replace HB := Ks_ HB hb; (try clear hb); (try clear hb2); (try clear hk); (try clear hi); obtain ⟨hcz39_0, hcz39_1, hfz39_0, hfz39_1⟩ := Ke2_ BK196.out) | ((with_reducible refine gate_callee (f := 106) rfl ?_); refine Kg_ (some 14) rfl rfl Try.func106 (by kernel_rfl) rfl #[.agg #[.string t200, .bool t201]] rfl ?_; (with_reducible refine (vec_Get.calls k t200 t201 t202 t203 t204 t205 t206 false _ A3.out).mono ?_); rintro e w40 ⟨rfl, hb⟩; refine ⟨_, rfl, ?_⟩; replace BK196 := Aside0.mk (blk_below (g := gb196) (o := .cells #[.string t200, .bool t201] 134 (0, 0)) (by refine Kv_ ?_; refine blk_put (cs := #[.string t200, .bool a0_1]) ?_ 1 _ rfl; refine Kv_ ?_; refine blk_put (cs := #[.string a0_0, .bool a0_1]) ?_ 0 _ rfl; exact Kq_ BK196) hb); replace BK197 := Kf_ BK197 NB197_196 hb; replace BK198 := Kf_ BK198 NB198_196 hb; replace HB := Kt_ HB GE196 hb; (try clear hb); (try clear hb2); (try clear hk); (try clear hi)) | ((with_reducible refine gate_dst (N := 5) rfl ?_); refine Ka_ 5 #[.int .u64 0, .int .u64 0, .int .u64 0, .int .u64 0] 28 ?_; intro gb208 hg w41 hbox hb; have BK208 := Aside0.mk (hbox); have GW208 := Kw_ HB hg; have GE208 := GW208; have NB196_208 := Kl_ BK196 hg; have NB208_196 := Kr_ BK196 hg; have NB197_208 := Kl_ BK197 hg; have NB208_197 := Kr_ BK197 hg; have NB198_208 := Kl_ BK198 hg; have NB208_198 := Kr_ BK198 hg; replace BK196 := Kb_ BK196 hb; replace BK197 := Kb_ BK197 hb; replace BK198 := Kb_ BK198 hb; replace HB := Ks_ HB hb; clear hb hbox hg; have hnb42 := NB208_196.out; have hnc42 := NB196_208.out; have hnb43 := NB208_197.out; have hnc43 := NB197_208.out; have hnb44 := NB208_198.out; have hnc44 := NB198_208.out; obtain ⟨hcz45_0, hcz45_1, hcz45_2, hcz45_3, hfz45_0, hfz45_1, hfz45_2, hfz45_3⟩ := Ke4_ BK208.out; obtain ⟨hcz46_0, hcz46_1, hfz46_0, hfz46_1⟩ := Ke2_ BK196.out) | ((with_reducible refine gate_dst (N := 6) rfl ?_); refine Ka_ 6 #[.int .u64 0, .int .u64 0, .int .u64 0, .int .u64 0, .int .i64 0] 30 ?_; intro gb209 hg w47 hbox hb; have BK209 := Aside0.mk (hbox); have GW209 := Aside0.mk ((by rw [hg]; exact (below_size (K4a_ HB GE196 GE197 GE198 GE208)) : w.heap.size ≤ gb209)); have GE209 := GW209; have NB196_209 := Aside0.mk ((by rw [hg]; exact Nat.ne_of_lt (blk_lt (g := gb196) (o := .cells #[.string t206, .bool false] 134 (0, 0)) (by refine Kv_ ?_; refine blk_put (cs := #[.string t206, .bool t201]) ?_ 1 _ rfl; refine Kv_ ?_; refine blk_put (cs := #[.string t200, .bool t201]) ?_ 0 _ rfl; exact K1b_ BK196 NB196_208)) : gb196 ≠ gb209)); have NB209_196 := Aside0.mk ((by rw [hg]; exact Nat.ne_of_gt (blk_lt (g := gb196) (o := .cells #[.string t206, .bool false] 134 (0, 0)) (by refine Kv_ ?_; refine blk_put (cs := #[.string t206, .bool t201]) ?_ 1 _ rfl; refine Kv_ ?_; refine blk_put (cs := #[.string t200, .bool t201]) ?_ 0 _ rfl; exact K1b_ BK196 NB196_208)) : gb209 ≠ gb196)); have NB197_209 := Aside0.mk ((by rw [hg]; exact Nat.ne_of_lt (blk_lt (g := gb197) (o := .cells #[.int .u64 0, .int .u64 0, .int .u64 0, .int .u64 0, .int .i64 0] 30 (0, 0)) (K2b_ BK197 NB197_196 NB197_208)) : gb197 ≠ gb209)); have NB209_197 := Aside0.mk ((by rw [hg]; exact Nat.ne_of_gt (blk_lt (g := gb197) (o := .cells #[.int .u64 0, .int .u64 0, .int .u64 0, .int .u64 0, .int .i64 0] 30 (0, 0)) (K2b_ BK197 NB197_196 NB197_208)) : gb209 ≠ gb197)); have NB198_209 := Aside0.mk ((by rw [hg]; exact Nat.ne_of_lt (blk_lt (g := gb198) (o := .cells #[.string (⟨#[]⟩ : ByteArray), .bool false] 134 (0, 0)) (K2b_ BK198 NB198_196 NB198_208)) : gb198 ≠ gb209)); have NB209_198 := Aside0.mk ((by rw [hg]; exact Nat.ne_of_gt (blk_lt (g := gb198) (o := .cells #[.string (⟨#[]⟩ : ByteArray), .bool false] 134 (0, 0)) (K2b_ BK198 NB198_196 NB198_208)) : gb209 ≠ gb198)); have NB208_209 := Aside0.mk ((by rw [hg]; exact Nat.ne_of_lt (blk_lt (g := gb208) (o := .cells #[.int .u64 t202, .int .u64 t203, .int .u64 t204, .int .u64 t205] 28 (0, 0)) (by (repeat (first | (with_reducible first | refine blk_drewN ?_ _ | refine blk_drew ?_ | refine blk_alloc ?_ _) | refine blk_far ?_ NB208_196.out _)); refine blk_put (cs := #[.int .u64 t202, .int .u64 t203, .int .u64 t204, .int .u64 0]) ?_ 3 _ rfl; refine Kv_ ?_; refine blk_put (cs := #[.int .u64 t202, .int .u64 t203, .int .u64 0, .int .u64 0]) ?_ 2 _ rfl; refine Kv_ ?_; refine blk_put (cs := #[.int .u64 t202, .int .u64 0, .int .u64 0, .int .u64 0]) ?_ 1 _ rfl; refine Kv_ ?_; refine blk_put (cs := #[.int .u64 0, .int .u64 0, .int .u64 0, .int .u64 0]) ?_ 0 _ rfl; exact Kq_ BK208)) : gb208 ≠ gb209)); have NB209_208 := Aside0.mk ((by rw [hg]; exact Nat.ne_of_gt (blk_lt (g := gb208) (o := .cells #[.int .u64 t202, .int .u64 t203, .int .u64 t204, .int .u64 t205] 28 (0, 0)) (by (repeat (first | (with_reducible first | refine blk_drewN ?_ _ | refine blk_drew ?_ | refine blk_alloc ?_ _) | refine blk_far ?_ NB208_196.out _)); refine blk_put (cs := #[.int .u64 t202, .int .u64 t203, .int .u64 t204, .int .u64 0]) ?_ 3 _ rfl; refine Kv_ ?_; refine blk_put (cs := #[.int .u64 t202, .int .u64 t203, .int .u64 0, .int .u64 0]) ?_ 2 _ rfl; refine Kv_ ?_; refine blk_put (cs := #[.int .u64 t202, .int .u64 0, .int .u64 0, .int .u64 0]) ?_ 1 _ rfl; refine Kv_ ?_; refine blk_put (cs := #[.int .u64 0, .int .u64 0, .int .u64 0, .int .u64 0]) ?_ 0 _ rfl; exact Kq_ BK208)) : gb209 ≠ gb208)); replace BK196 := Aside0.mk (blk_below (g := gb196) (o := .cells #[.string t206, .bool false] 134 (0, 0)) (by refine Kv_ ?_; refine blk_put (cs := #[.string t206, .bool t201]) ?_ 1 _ rfl; refine Kv_ ?_; refine blk_put (cs := #[.string t200, .bool t201]) ?_ 0 _ rfl; exact K1b_ BK196 NB196_208) hb); replace BK197 := Aside0.mk (blk_below (g := gb197) (o := .cells #[.int .u64 0, .int .u64 0, .int .u64 0, .int .u64 0, .int .i64 0] 30 (0, 0)) (K2b_ BK197 NB197_196 NB197_208) hb); replace BK198 := Aside0.mk (blk_below (g := gb198) (o := .cells #[.string (⟨#[]⟩ : ByteArray), .bool false] 134 (0, 0)) (K2b_ BK198 NB198_196 NB198_208) hb); replace BK208 := Aside0.mk (blk_below (g := gb208) (o := .cells #[.int .u64 t202, .int .u64 t203, .int .u64 t204, .int .u64 t205] 28 (0, 0)) (by (repeat (first | (with_reducible first | refine blk_drewN ?_ _ | refine blk_drew ?_ | refine blk_alloc ?_ _) | refine blk_far ?_ NB208_196.out _)); refine blk_put (cs := #[.int .u64 t202, .int .u64 t203, .int .u64 t204, .int .u64 0]) ?_ 3 _ rfl; refine Kv_ ?_; refine blk_put (cs := #[.int .u64 t202, .int .u64 t203, .int .u64 0, .int .u64 0]) ?_ 2 _ rfl; refine Kv_ ?_; refine blk_put (cs := #[.int .u64 t202, .int .u64 0, .int .u64 0, .int .u64 0]) ?_ 1 _ rfl; refine Kv_ ?_; refine blk_put (cs := #[.int .u64 0, .int .u64 0, .int .u64 0, .int .u64 0]) ?_ 0 _ rfl; exact Kq_ BK208) hb); replace HB := Aside0.mk (below_step (K4a_ HB GE196 GE197 GE198 GE208) hb); clear hb hbox hg; have hnb48 := NB209_196.out; have hnc48 := NB196_209.out; have hnb49 := NB209_197.out; have hnc49 := NB197_209.out; have hnb50 := NB209_198.out; have hnc50 := NB198_209.out; have hnb51 := NB209_208.out; have hnc51 := NB208_209.out; obtain ⟨hcz52_0, hcz52_1, hcz52_2, hcz52_3, hcz52_4, hfz52_0, hfz52_1, hfz52_2, hfz52_3, hfz52_4⟩ := Ke5_ BK209.out; obtain ⟨hcz53_0, hcz53_1, hfz53_0, hfz53_1⟩ := Ke2_ BK196.out) | (go_at_call 69; (with_reducible refine (stamp_Right.calls t202 t203 t204 t205 (wrap64 (t199)) true _ A30.out).mono ?_); rintro e w54 ⟨rfl, hb⟩; replace BK196 := Kf_ BK196 NB196_209 hb; replace BK197 := Kf_ BK197 NB197_209 hb; replace BK198 := Kf_ BK198 NB198_209 hb; replace BK208 := Kf_ BK208 NB208_209 hb; replace BK209 := Aside0.mk (blk_below (g := gb209) (o := .cells #[.int .u64 t202, .int .u64 t203, .int .u64 t204, .int .u64 t205, .int .i64 (wrap64 (t199))] 30 (0, 0)) (by refine Kv_ ?_; refine blk_put (cs := #[.int .u64 t202, .int .u64 t203, .int .u64 t204, .int .u64 t205, .int .i64 0]) ?_ 4 _ rfl; refine Kv_ ?_; refine blk_put (cs := #[.int .u64 t202, .int .u64 t203, .int .u64 t204, .int .u64 0, .int .i64 0]) ?_ 3 _ rfl; refine Kv_ ?_; refine blk_put (cs := #[.int .u64 t202, .int .u64 t203, .int .u64 0, .int .u64 0, .int .i64 0]) ?_ 2 _ rfl; refine Kv_ ?_; refine blk_put (cs := #[.int .u64 t202, .int .u64 0, .int .u64 0, .int .u64 0, .int .i64 0]) ?_ 1 _ rfl; refine Kv_ ?_; refine blk_put (cs := #[.int .u64 0, .int .u64 0, .int .u64 0, .int .u64 0, .int .i64 0]) ?_ 0 _ rfl; exact Kq_ BK209) hb); replace HB := Kt_ HB GE209 hb; (try clear hb); (try clear hb2); (try clear hk); (try clear hi)))
 replace BK196 := Kd_ BK196
 replace BK197 := Kd_ BK197
 replace BK198 := Kd_ BK198
 replace BK208 := Kd_ BK208
 replace BK209 := Kd_ BK209
 replace HB := Aside0.mk (below_drew1 HB.out)
 refine start_ (n := 4) (S := fun w' => w'.cell? ⟨gb209, 0, none⟩ = some (.int .u64 t202) ∧ w'.cell? ⟨gb209, 1, none⟩ = some (.int .u64 t203) ∧ w'.cell? ⟨gb209, 2, none⟩ = some (.int .u64 t204) ∧ w'.cell? ⟨gb209, 3, none⟩ = some (.int .u64 t205) ∧ w'.cell? ⟨gb209, 4, none⟩ = some (.int .i64 (wrap64 (t199))) ∧ w'.cell? ⟨gb196, 0, none⟩ = some (.string t206) ∧ w'.cell? ⟨gb196, 1, none⟩ = some (.bool false)) (ds := []) (mB_ 4 0) (by kernel_rfl) rfl rfl ⟨Km_ BK209 0, Km_ BK209 1, Km_ BK209 2, Km_ BK209 3, Km_ BK209 4, Km_ BK196 0, Km_ BK196 1⟩ (fun hHeld => ?_)
 generalize w54.drew = w55 at BK196 BK197 BK198 BK208 BK209 HB hHeld ⊢
 refine Ko_ 0 28 (mB_ 4 1) (by kernel_rfl) hHeld ?_
 refine Ko_ 1 29 (mB_ 4 3) (by kernel_rfl) hHeld ?_
 refine one_ (i := 2) (N := none) (mB_ 4 7) rfl rfl (by kernel_rfl) (by decide) (fun K hK => ?_)
 have hs56 : w55.cell? ⟨gb197, 0, none⟩ = some (.int .u64 0) := (blk_cell BK197.out 0).trans rfl
 have hfs56 := blk_frozen BK197.out 0
 have hns56_0 := NB196_197.out
 have hns56_2 := NB198_197.out
 have hns56_3 := NB208_197.out
 have hns56_4 := NB209_197.out
 have hms56_0 := NB197_196.out
 have hms56_2 := NB197_198.out
 have hms56_3 := NB197_208.out
 have hms56_4 := NB197_209.out
 have hs57 : w55.cell? ⟨gb197, 1, none⟩ = some (.int .u64 0) := (blk_cell BK197.out 1).trans rfl
 have hfs57 := blk_frozen BK197.out 1
 have hns57_0 := NB196_197.out
 have hns57_2 := NB198_197.out
 have hns57_3 := NB208_197.out
 have hns57_4 := NB209_197.out
 have hms57_0 := NB197_196.out
 have hms57_2 := NB197_198.out
 have hms57_3 := NB197_208.out
 have hms57_4 := NB197_209.out
 have hs58 : w55.cell? ⟨gb197, 2, none⟩ = some (.int .u64 0) := (blk_cell BK197.out 2).trans rfl
 have hfs58 := blk_frozen BK197.out 2
 have hns58_0 := NB196_197.out
 have hns58_2 := NB198_197.out
 have hns58_3 := NB208_197.out
 have hns58_4 := NB209_197.out
 have hms58_0 := NB197_196.out
 have hms58_2 := NB197_198.out
 have hms58_3 := NB197_208.out
 have hms58_4 := NB197_209.out
 have hs59 : w55.cell? ⟨gb197, 3, none⟩ = some (.int .u64 0) := (blk_cell BK197.out 3).trans rfl
 have hfs59 := blk_frozen BK197.out 3
 have hns59_0 := NB196_197.out
 have hns59_2 := NB198_197.out
 have hns59_3 := NB208_197.out
 have hns59_4 := NB209_197.out
 have hms59_0 := NB197_196.out
 have hms59_2 := NB197_198.out
 have hms59_3 := NB197_208.out
 have hms59_4 := NB197_209.out
 have hs60 : w55.cell? ⟨gb197, 4, none⟩ = some (.int .i64 0) := (blk_cell BK197.out 4).trans rfl
 have hfs60 := blk_frozen BK197.out 4
 have hns60_0 := NB196_197.out
 have hns60_2 := NB198_197.out
 have hns60_3 := NB208_197.out
 have hns60_4 := NB209_197.out
 have hms60_0 := NB197_196.out
 have hms60_2 := NB197_198.out
 have hms60_3 := NB197_208.out
 have hms60_4 := NB197_209.out
 refine skip_ (w1 := ?_) (by rfl) rfl ?_ ?_
 rotate_left
 ·go_simp
  rfl
 refine hK.out _ _ ⟨(Kj_ NB209_197 ((Kj_ NB209_197 ((Kj_ NB209_197 ((Kj_ NB209_197 ((Kj_ NB209_197 (hHeld.1)))))))))), (Kj_ NB209_197 ((Kj_ NB209_197 ((Kj_ NB209_197 ((Kj_ NB209_197 ((Kj_ NB209_197 (hHeld.2.1)))))))))), (Kj_ NB209_197 ((Kj_ NB209_197 ((Kj_ NB209_197 ((Kj_ NB209_197 ((Kj_ NB209_197 (hHeld.2.2.1)))))))))), (Kj_ NB209_197 ((Kj_ NB209_197 ((Kj_ NB209_197 ((Kj_ NB209_197 ((Kj_ NB209_197 (hHeld.2.2.2.1)))))))))), (Kj_ NB209_197 ((Kj_ NB209_197 ((Kj_ NB209_197 ((Kj_ NB209_197 ((Kj_ NB209_197 (hHeld.2.2.2.2.1)))))))))), (Kj_ NB196_197 ((Kj_ NB196_197 ((Kj_ NB196_197 ((Kj_ NB196_197 ((Kj_ NB196_197 (hHeld.2.2.2.2.2.1)))))))))), (Kj_ NB196_197 ((Kj_ NB196_197 ((Kj_ NB196_197 ((Kj_ NB196_197 ((Kj_ NB196_197 (hHeld.2.2.2.2.2.2))))))))))⟩ (fun hHeld => ?_)
 clear hK K
 refine one_ (i := 3) (N := none) (mB_ 4 15) rfl rfl (by kernel_rfl) (by decide) (fun K hK => ?_)
 have hs61 : w55.cell? ⟨gb198, 0, none⟩ = some (.string (⟨#[]⟩ : ByteArray)) := (blk_cell BK198.out 0).trans rfl
 have hfs61 := blk_frozen BK198.out 0
 have hns61_0 := NB196_198.out
 have hns61_1 := NB197_198.out
 have hns61_3 := NB208_198.out
 have hns61_4 := NB209_198.out
 have hms61_0 := NB198_196.out
 have hms61_1 := NB198_197.out
 have hms61_3 := NB198_208.out
 have hms61_4 := NB198_209.out
 have hs62 : w55.cell? ⟨gb198, 1, none⟩ = some (.bool false) := (blk_cell BK198.out 1).trans rfl
 have hfs62 := blk_frozen BK198.out 1
 have hns62_0 := NB196_198.out
 have hns62_1 := NB197_198.out
 have hns62_3 := NB208_198.out
 have hns62_4 := NB209_198.out
 have hms62_0 := NB198_196.out
 have hms62_1 := NB198_197.out
 have hms62_3 := NB198_208.out
 have hms62_4 := NB198_209.out
 refine skip_ (w1 := ?_) (by rfl) rfl ?_ ?_
 rotate_left
 ·go_simp
  rfl
 refine hK.out _ _ ⟨(Kj_ NB209_198 ((Kj_ NB209_198 (hHeld.1)))), (Kj_ NB209_198 ((Kj_ NB209_198 (hHeld.2.1)))), (Kj_ NB209_198 ((Kj_ NB209_198 (hHeld.2.2.1)))), (Kj_ NB209_198 ((Kj_ NB209_198 (hHeld.2.2.2.1)))), (Kj_ NB209_198 ((Kj_ NB209_198 (hHeld.2.2.2.2.1)))), (Kj_ NB196_198 ((Kj_ NB196_198 (hHeld.2.2.2.2.2.1)))), (Kj_ NB196_198 ((Kj_ NB196_198 (hHeld.2.2.2.2.2.2))))⟩ (fun hHeld => ?_)
 clear hK K
 refine done_ (by kernel_rfl) ?_
 try go_wp2
 refine bodyPost_ret (results_cc rfl _ _ gb197 gb198 30 134 #[.int .u64 t202, .int .u64 t203, .int .u64 t204, .int .u64 t205, .int .i64 (wrap64 (t199))] #[.string t206, .bool false] (0, 0) (0, 0) _ _ rfl (by (repeat (first | (with_reducible first | refine blk_drewN ?_ _ | refine blk_drew ?_ | refine blk_alloc ?_ _) | refine blk_far ?_ NB197_198.out _)); refine blk_put (cs := #[.int .u64 t202, .int .u64 t203, .int .u64 t204, .int .u64 t205, .int .i64 0]) ?_ 4 _ rfl; refine Kv_ ?_; refine blk_put (cs := #[.int .u64 t202, .int .u64 t203, .int .u64 t204, .int .u64 0, .int .i64 0]) ?_ 3 _ rfl; refine Kv_ ?_; refine blk_put (cs := #[.int .u64 t202, .int .u64 t203, .int .u64 0, .int .u64 0, .int .i64 0]) ?_ 2 _ rfl; refine Kv_ ?_; refine blk_put (cs := #[.int .u64 t202, .int .u64 0, .int .u64 0, .int .u64 0, .int .i64 0]) ?_ 1 _ rfl; refine Kv_ ?_; refine blk_put (cs := #[.int .u64 0, .int .u64 0, .int .u64 0, .int .u64 0, .int .i64 0]) ?_ 0 _ rfl; exact Kq_ BK197) Try.underlying30 rfl (by kernel_rfl) rfl (by refine Kv_ ?_; refine blk_put (cs := #[.string t206, .bool false]) ?_ 1 _ rfl; refine Kv_ ?_; refine blk_put (cs := #[.string (⟨#[]⟩ : ByteArray), .bool false]) ?_ 0 _ rfl; exact K1b_ BK198 NB198_197) Try.underlying134 rfl (by kernel_rfl)) rfl ?_
 exact ⟨Kh_, by repeat (first | (with_reducible first | exact HB.out | apply below_alloc | apply pw_below_drewN | apply below_drew1 | refine below_set ?_ GE196.out | refine below_set ?_ GE197.out | refine below_set ?_ GE198.out | refine below_set ?_ GE208.out | refine below_set ?_ GE209.out) | exact HB.out)⟩
def pack_Reader_Done.f (a0_0 : ByteArray) (a0_1 : Bool) : Option (Bool) := if a0_1 = true then (some false) else (some (a0_0.toList == ([] : List UInt8)))
set_option maxHeartbeats 8000000 in
set_option maxRecDepth 100000 in
theorem pack_Reader_Done.calls (a0_0 : ByteArray) (a0_1 : Bool) (r : Bool) (w : World) (h : pack_Reader_Done.f a0_0 a0_1 = some r) :
  Calls Try.prog 100 #[.agg #[.string a0_0, .bool a0_1]] w fun e w' => e = .returned (.bool r) ∧ Below w.heap.size w w' := by
 have hu134 := Try.underlying134
 have HB := Aside0.mk (Below.refl w.heap.size w)
 have H : (if a0_1 = true then (some false) else (some (a0_0.toList == ([] : List UInt8)))) = some r := h
 clear h
 by_cases c2 : a0_1 = true
 ·subst c2
  have H1 : (some false) = some r := by rw [if_pos rfl] at H; exact H
  clear H
  have H := H1
  clear H1
  obtain rfl := Option.some.inj H
  go_enter Try.func100, Try.ntmps100
  go_wp2_with (first | ((with_reducible refine gate_dst (N := 1) rfl ?_); refine Ka_ 1 #[.string a0_0, .bool true] 134 ?_; intro gb211 hg w3 hbox hb; have BK211 := Aside0.mk (hbox); have GW211 := Kw_ HB hg; have GE211 := GW211; replace HB := Ks_ HB hb; clear hb hbox hg; obtain ⟨hcz4_0, hcz4_1, hfz4_0, hfz4_1⟩ := Ke2_ BK211.out))
  go_ret
  exact ⟨Kh_, Kz_ HB GE211⟩
 replace c2 := Bool.eq_false_iff.mpr c2
 subst c2
 have H1 : (some (a0_0.toList == ([] : List UInt8))) = some r := by rw [if_neg (show ¬ (false = true) by decide)] at H; exact H
 clear H
 have H := H1
 clear H1
 obtain rfl := Option.some.inj H
 go_enter Try.func100, Try.ntmps100
 go_wp2_with (first | ((with_reducible refine gate_dst (N := 1) rfl ?_); refine Ka_ 1 #[.string a0_0, .bool false] 134 ?_; intro gb211 hg w5 hbox hb; have BK211 := Aside0.mk (hbox); have GW211 := Kw_ HB hg; have GE211 := GW211; replace HB := Ks_ HB hb; clear hb hbox hg; obtain ⟨hcz6_0, hcz6_1, hfz6_0, hfz6_1⟩ := Ke2_ BK211.out))
 go_ret
 exact ⟨Kh_, Kz_ HB GE211⟩
def tenementlaw15_refStamp.f (a0_0 : Int) (a0_1 : Int) (a0_2 : Int) (a0_3 : Int) (a0_4 : Int) : Option (Int × Int × Int × Int × Int) := some (a0_0, a0_1, a0_2, a0_3, a0_4)
set_option maxHeartbeats 8000000 in
set_option maxRecDepth 100000 in
theorem tenementlaw15_refStamp.calls (a0_0 : Int) (a0_1 : Int) (a0_2 : Int) (a0_3 : Int) (a0_4 : Int) (r1 : Int) (r2 : Int) (r3 : Int) (r4 : Int) (r5 : Int) (w : World) (h : tenementlaw15_refStamp.f a0_0 a0_1 a0_2 a0_3 a0_4 = some (r1, r2, r3, r4, r5)) :
  Calls Try.prog 32 #[.agg #[.int .u64 a0_0, .int .u64 a0_1, .int .u64 a0_2, .int .u64 a0_3, .int .i64 a0_4]] w fun e w' => e = .returned (.agg #[.int .u64 r1, .int .u64 r2, .int .u64 r3, .int .u64 r4, .int .i64 r5]) ∧ Below w.heap.size w w' := by
 have hu30 := Try.underlying30
 have hu52 := Try.underlying52
 have hu28 := Try.underlying28
 have HB := Aside0.mk (Below.refl w.heap.size w)
 have H : (some (a0_0, a0_1, a0_2, a0_3, a0_4)) = some (r1, r2, r3, r4, r5) := h
 clear h
 simp only [Option.some.injEq, Prod.mk.injEq] at H
 obtain ⟨rfl, rfl, rfl, rfl, rfl⟩ := H
 go_enter Try.func32, Try.ntmps32
 go_wp2_with (first | ((with_reducible refine gate_dst (N := 1) rfl ?_); refine Ka_ 1 #[.int .u64 a0_0, .int .u64 a0_1, .int .u64 a0_2, .int .u64 a0_3, .int .i64 a0_4] 30 ?_; intro gb280 hg w2 hbox hb; have BK280 := Aside0.mk (hbox); have GW280 := Kw_ HB hg; have GE280 := GW280; replace HB := Ks_ HB hb; clear hb hbox hg) | ((with_reducible refine gate_dst (N := 2) rfl ?_); refine Ka_ 2 #[.int .u64 0, .int .u64 0, .int .u64 0, .int .u64 0, .int .i64 0] 52 ?_; intro gb281 hg w3 hbox hb; have BK281 := Aside0.mk (hbox); have GW281 := Kw_ HB hg; have GE281 := GW281; have NB280_281 := Kl_ BK280 hg; have NB281_280 := Kr_ BK280 hg; replace BK280 := Kb_ BK280 hb; replace HB := Ks_ HB hb; clear hb hbox hg; have hnb4 := NB280_281.out; have hnc4 := NB281_280.out; obtain ⟨hcz5_0, hcz5_1, hcz5_2, hcz5_3, hcz5_4, hfz5_0, hfz5_1, hfz5_2, hfz5_3, hfz5_4⟩ := Ke5_ BK280.out; obtain ⟨hcz6_0, hcz6_1, hcz6_2, hcz6_3, hcz6_4, hfz6_0, hfz6_1, hfz6_2, hfz6_3, hfz6_4⟩ := Ke5_ BK281.out))
 refine bodyPost_ret (results_cell_row rfl _ _ gb281 52 #[.int .u64 a0_0, .int .u64 a0_1, .int .u64 a0_2, .int .u64 a0_3, .int .i64 a0_4] (0, 0) _ rfl (by refine Kv_ ?_; refine blk_put (cs := #[.int .u64 a0_0, .int .u64 a0_1, .int .u64 a0_2, .int .u64 a0_3, .int .i64 0]) ?_ 4 _ rfl; refine Kv_ ?_; refine blk_put (cs := #[.int .u64 a0_0, .int .u64 a0_1, .int .u64 a0_2, .int .u64 0, .int .i64 0]) ?_ 3 _ rfl; refine Kv_ ?_; refine blk_put (cs := #[.int .u64 a0_0, .int .u64 a0_1, .int .u64 0, .int .u64 0, .int .i64 0]) ?_ 2 _ rfl; refine Kv_ ?_; refine blk_put (cs := #[.int .u64 a0_0, .int .u64 0, .int .u64 0, .int .u64 0, .int .i64 0]) ?_ 1 _ rfl; refine Kv_ ?_; refine blk_put (cs := #[.int .u64 0, .int .u64 0, .int .u64 0, .int .u64 0, .int .i64 0]) ?_ 0 _ rfl; exact Kq_ BK281) Try.underlying52 rfl (by kernel_rfl)) rfl ?_
 exact ⟨Kh_, K2a_ HB GE280 GE281⟩
def tenementlaw15_refWrites.l0 : Nat → List (S107) → List (S117) → Int → Option ((List (S117)))
 | 0, _, _, _ => none
 | k + 1, x0, x3, x4 => if x4 < (x0.length : Int) then (if 0 ≤ x4 then (if x3.length < 2513169434916 then (tenementlaw15_refWrites.l0 k x0 (x3 ++ [(⟨(rd_T107 x0 x4).f0, (rd_T107 x0 x4).f1, (rd_T107 x0 x4).f2, (rd_T107 x0 x4).f3⟩ : S117)]) (wrap64 (x4 + 1))) else (none)) else (none)) else (some x3)
def tenementlaw15_refWrites.f (k : Nat) (l0 : List (S107)) : Option ((List (S117))) := tenementlaw15_refWrites.l0 k l0 ([] : List (S117)) 0
def tenementlaw15_refWrites.T5 : Bool × List (List Nat × List Nat) := (true, [([], []), ([], []), ([], []), ([1, 2], [1, 2]), ([3], [3]), ([4], [4]), ([], []), ([], []), ([6, 7], [6, 7]), ([8], [8]), ([9], [9]), ([], []), ([], []), ([11, 12], [11, 12]), ([13], [13]), ([14], [14]), ([], []), ([], []), ([16, 17], [16, 17]), ([18], [18]), ([19], [19]), ([5, 10, 15, 20], [5, 10, 15, 20]), ([21], [21]), ([0, 22], [0, 22]), ([23, 23, 0, 1, 2, 3, 4, 5, 6, 7, 8, 9, 10, 11, 12, 13, 14, 15, 16, 17, 18, 19, 20, 21, 22, 23], [0, 23])])
def tenementlaw15_refWrites.B5 : List Nat := [0, 0, 0, 6, 14, 30, 0, 0, 192, 448, 960, 0, 0, 6144, 14336, 30720, 0, 0, 196608, 458752, 983040, 2097150, 4194302, 8388607, 16777215]
theorem tenementlaw15_refWrites.tab5 : rtab .any (opsOf Try.f57 5) = tenementlaw15_refWrites.T5 := by kernel_rfl
theorem tenementlaw15_refWrites.bits5 : waitsOk tenementlaw15_refWrites.T5.2 tenementlaw15_refWrites.B5 = true := by kernel_rfl
set_option maxHeartbeats 8000000 in
set_option maxRecDepth 100000 in
theorem tenementlaw15_refWrites.calls (k : Nat) (A0 : Option Addr) (c0 : Nat) (l0 : List (S107)) (r : List (S117)) (w : World) (hr0 : Kd.C k107 w A0 l0.length l0) (hc0 : l0.length ≤ c0) (h : tenementlaw15_refWrites.f k l0 = some r) :
  Calls Try.prog 57 #[.slice A0 l0.length c0] w fun e w' => ∃ v0_ : Value, e = .returned (v0_) ∧ Kd.R k117 117 w' w.heap.size (fun _ => True) v0_ r ∧ Below w.heap.size w w' := by
 have hu117 := Try.underlying117
 have HR0 := Aside0.mk hr0
 have HC0 := Aside0.mk hc0
 clear hr0 hc0
 have HB := Aside0.mk (Below.refl w.heap.size w)
 have H : (tenementlaw15_refWrites.l0 k l0 ([] : List (S117)) 0) = some r := h
 clear h
 have H' := Aside0.mk H
 clear H
 go_enter Try.func57, Try.ntmps57
 go_wp2
 go_loopg [3, 4] k (fun kq v3 v4 w' => ∃ (x3_1 : List (S117)) (x4_1 : Int), v4 = .int .i64 x4_1 ∧ Aside0 (tenementlaw15_refWrites.l0 kq l0 x3_1 x4_1 = some r) ∧ Aside0 (kq ≤ k) ∧ Aside0 (Kd.R k117 117 w' w.heap.size (fun _ => True) v3 x3_1) ∧ Aside0 (Below w.heap.size w w'))
 case atStart => exact ⟨(([] : List (S117))), (0), (by first | rfl | (simp; done) | (simp [*]; done)), H', ⟨Nat.le_refl _⟩, ⟨by first | exact Kd.R_nil _ _ _ _ _ | exact Kd.N_nil _ _ _ _ _ | exact Kd.V_nil _ _ _ _ _ | exact Kd.Q_nil _ _ _ _ _ | exact Kd.S_nil _ _ _ _ _⟩, ⟨Ky_ HB⟩⟩
 case round =>
  clear H'
  obtain ⟨x3_1, x4_1, rfl, HA, HK1, HO_3, HB⟩ := hrel
  cases gk with
  | zero => exact absurd HA.out (by simp [tenementlaw15_refWrites.l0])
  | succ k1 =>
   have H := HA.out
   clear HA
   simp only [tenementlaw15_refWrites.l0] at H
   by_cases c2 : x4_1 < (l0.length : Int)
   rotate_left
   ·rw [if_neg c2] at H
    have c2b0 : decide (x4_1 < (l0.length : Int)) = false := decide_eq_false c2
    clear c2
    obtain rfl := Option.some.inj H
    go_wp2
    go_ret
    exact ⟨_, by first | rfl | (simp [errW_none, errW_some] <;> rfl) | (simp [*, errW_none, errW_some] <;> rfl), by (with_reducible repeat (first | apply Kd.R_alloc | apply Kd.R_drewN | apply Kd.R_drew)); exact HO_3.out, Ky_ HB⟩
   rw [if_pos c2] at H
   have c2b0 : decide (x4_1 < (l0.length : Int)) = true := decide_eq_true c2
   clear c2
   by_cases c3 : 0 ≤ x4_1
   rotate_left
   ·rw [if_neg c3] at H
    exact absurd H (by simp)
   rw [if_pos c3] at H
   have c3b0 : decide (0 ≤ x4_1) = true := decide_eq_true c3
   clear c3
   by_cases c4 : x3_1.length < 2513169434916
   rotate_left
   ·rw [if_neg c4] at H
    exact absurd H (by simp)
   rw [if_pos c4] at H
   have LMc4 := Aside0.mk c4
   clear c4
   obtain ⟨y286, hy286⟩ : ∃ y_ : List (S117), y_ = (x3_1 ++ [(⟨(rd_T107 l0 x4_1).f0, (rd_T107 l0 x4_1).f1, (rd_T107 l0 x4_1).f2, (rd_T107 l0 x4_1).f3⟩ : S117)]) := ⟨_, rfl⟩
   replace H : (tenementlaw15_refWrites.l0 k1 l0 y286 (wrap64 (x4_1 + 1))) = some r := by first | (rw [hy286]; with_reducible exact H) | (have H2_ := (Option.bind_some _ _).symm.trans H; rw [hy286]; with_reducible exact H2_) | (have H2_ := (Option.bind_some _ _).symm.trans H; with_reducible exact H2_) | with_reducible exact H | (rw [hy286]; exact H) | exact H
   have Ny286 := Aside0.mk hy286
   clear hy286
   have H' := Aside0.mk H
   clear H
   try go_wp2
   replace HO_3 := Aside0.mk (Kd.R_drew HO_3.out)
   replace HB := Aside0.mk (below_drew1 HB.out)
   have p282 : 0 ≤ (x4_1 : Int) := of_decide_eq_true (by first | (with_reducible assumption) | assumption)
   have q282 : x4_1 < (l0.length : Int) := of_decide_eq_true (by first | (with_reducible assumption) | assumption)
   obtain ⟨ad282, e282, hx282_0, hx282_1, hx282_2, hx282_3⟩ := at_T107 HR0.out x4_1 p282 q282
   have hw282_3 := hx282_3
   have hw282_2 := hx282_2
   have hw282_1 := hx282_1
   have hw282_0 := hx282_0
   cases e282
   replace hx282_0 := (HB.out.cell (World.block_lt_of_cell? w _ hx282_0)).trans hx282_0
   replace hx282_1 := (HB.out.cell (World.block_lt_of_cell? w _ hx282_1)).trans hx282_1
   replace hx282_2 := (HB.out.cell (World.block_lt_of_cell? w _ hx282_2)).trans hx282_2
   replace hx282_3 := (HB.out.cell (World.block_lt_of_cell? w _ hx282_3)).trans hx282_3
   replace p282 := eq_true p282
   replace q282 := eq_true q282
   have p283 : 0 ≤ (x4_1 : Int) := of_decide_eq_true (by first | (with_reducible assumption) | assumption)
   have q283 : x4_1 < (l0.length : Int) := of_decide_eq_true (by first | (with_reducible assumption) | assumption)
   obtain ⟨ad283, e283, hx283_0, hx283_1, hx283_2, hx283_3⟩ := at_T107 HR0.out x4_1 p283 q283
   have hw283_3 := hx283_3
   have hw283_2 := hx283_2
   have hw283_1 := hx283_1
   have hw283_0 := hx283_0
   obtain rfl : ad282 = ad283 := (by injection e283)
   replace hx283_0 := (HB.out.cell (World.block_lt_of_cell? w _ hx283_0)).trans hx283_0
   replace hx283_1 := (HB.out.cell (World.block_lt_of_cell? w _ hx283_1)).trans hx283_1
   replace hx283_2 := (HB.out.cell (World.block_lt_of_cell? w _ hx283_2)).trans hx283_2
   replace hx283_3 := (HB.out.cell (World.block_lt_of_cell? w _ hx283_3)).trans hx283_3
   replace p283 := eq_true p283
   replace q283 := eq_true q283
   have p284 : 0 ≤ (x4_1 : Int) := of_decide_eq_true (by first | (with_reducible assumption) | assumption)
   have q284 : x4_1 < (l0.length : Int) := of_decide_eq_true (by first | (with_reducible assumption) | assumption)
   obtain ⟨ad284, e284, hx284_0, hx284_1, hx284_2, hx284_3⟩ := at_T107 HR0.out x4_1 p284 q284
   have hw284_3 := hx284_3
   have hw284_2 := hx284_2
   have hw284_1 := hx284_1
   have hw284_0 := hx284_0
   obtain rfl : ad282 = ad284 := (by injection e284)
   replace hx284_0 := (HB.out.cell (World.block_lt_of_cell? w _ hx284_0)).trans hx284_0
   replace hx284_1 := (HB.out.cell (World.block_lt_of_cell? w _ hx284_1)).trans hx284_1
   replace hx284_2 := (HB.out.cell (World.block_lt_of_cell? w _ hx284_2)).trans hx284_2
   replace hx284_3 := (HB.out.cell (World.block_lt_of_cell? w _ hx284_3)).trans hx284_3
   replace p284 := eq_true p284
   replace q284 := eq_true q284
   have p285 : 0 ≤ (x4_1 : Int) := of_decide_eq_true (by first | (with_reducible assumption) | assumption)
   have q285 : x4_1 < (l0.length : Int) := of_decide_eq_true (by first | (with_reducible assumption) | assumption)
   obtain ⟨ad285, e285, hx285_0, hx285_1, hx285_2, hx285_3⟩ := at_T107 HR0.out x4_1 p285 q285
   have hw285_3 := hx285_3
   have hw285_2 := hx285_2
   have hw285_1 := hx285_1
   have hw285_0 := hx285_0
   obtain rfl : ad282 = ad285 := (by injection e285)
   replace hx285_0 := (HB.out.cell (World.block_lt_of_cell? w _ hx285_0)).trans hx285_0
   replace hx285_1 := (HB.out.cell (World.block_lt_of_cell? w _ hx285_1)).trans hx285_1
   replace hx285_2 := (HB.out.cell (World.block_lt_of_cell? w _ hx285_2)).trans hx285_2
   replace hx285_3 := (HB.out.cell (World.block_lt_of_cell? w _ hx285_3)).trans hx285_3
   replace p285 := eq_true p285
   replace q285 := eq_true q285
   refine start_ (n := 25) (S := fun w' => w'.cell? (ad282.add ((x4_1).toNat * 4)) = some (.string ((rd_T107 l0 x4_1).f0)) ∧ w'.cell? ⟨(ad282.add ((x4_1).toNat * 4)).block, (ad282.add ((x4_1).toNat * 4)).off + 1, none⟩ = some (.string ((rd_T107 l0 x4_1).f1)) ∧ w'.cell? ⟨(ad282.add ((x4_1).toNat * 4)).block, (ad282.add ((x4_1).toNat * 4)).off + 2, none⟩ = some (.string ((rd_T107 l0 x4_1).f2)) ∧ w'.cell? ⟨(ad282.add ((x4_1).toNat * 4)).block, (ad282.add ((x4_1).toNat * 4)).off + 3, none⟩ = some (.bool ((rd_T107 l0 x4_1).f3)) ∧ w'.cell? (ad282.add ((x4_1).toNat * 4)) = some (.string ((rd_T107 l0 x4_1).f0)) ∧ w'.cell? ⟨(ad282.add ((x4_1).toNat * 4)).block, (ad282.add ((x4_1).toNat * 4)).off + 1, none⟩ = some (.string ((rd_T107 l0 x4_1).f1)) ∧ w'.cell? ⟨(ad282.add ((x4_1).toNat * 4)).block, (ad282.add ((x4_1).toNat * 4)).off + 2, none⟩ = some (.string ((rd_T107 l0 x4_1).f2)) ∧ w'.cell? ⟨(ad282.add ((x4_1).toNat * 4)).block, (ad282.add ((x4_1).toNat * 4)).off + 3, none⟩ = some (.bool ((rd_T107 l0 x4_1).f3)) ∧ w'.cell? (ad282.add ((x4_1).toNat * 4)) = some (.string ((rd_T107 l0 x4_1).f0)) ∧ w'.cell? ⟨(ad282.add ((x4_1).toNat * 4)).block, (ad282.add ((x4_1).toNat * 4)).off + 1, none⟩ = some (.string ((rd_T107 l0 x4_1).f1)) ∧ w'.cell? ⟨(ad282.add ((x4_1).toNat * 4)).block, (ad282.add ((x4_1).toNat * 4)).off + 2, none⟩ = some (.string ((rd_T107 l0 x4_1).f2)) ∧ w'.cell? ⟨(ad282.add ((x4_1).toNat * 4)).block, (ad282.add ((x4_1).toNat * 4)).off + 3, none⟩ = some (.bool ((rd_T107 l0 x4_1).f3)) ∧ w'.cell? (ad282.add ((x4_1).toNat * 4)) = some (.string ((rd_T107 l0 x4_1).f0)) ∧ w'.cell? ⟨(ad282.add ((x4_1).toNat * 4)).block, (ad282.add ((x4_1).toNat * 4)).off + 1, none⟩ = some (.string ((rd_T107 l0 x4_1).f1)) ∧ w'.cell? ⟨(ad282.add ((x4_1).toNat * 4)).block, (ad282.add ((x4_1).toNat * 4)).off + 2, none⟩ = some (.string ((rd_T107 l0 x4_1).f2)) ∧ w'.cell? ⟨(ad282.add ((x4_1).toNat * 4)).block, (ad282.add ((x4_1).toNat * 4)).off + 3, none⟩ = some (.bool ((rd_T107 l0 x4_1).f3))) (ds := []) (mB_ 25 0) (by kernel_rfl) rfl rfl ⟨((HB.out.cell (World.block_lt_of_cell? w _ hw282_0)).trans hw282_0), ((HB.out.cell (World.block_lt_of_cell? w _ hw282_1)).trans hw282_1), ((HB.out.cell (World.block_lt_of_cell? w _ hw282_2)).trans hw282_2), ((HB.out.cell (World.block_lt_of_cell? w _ hw282_3)).trans hw282_3), ((HB.out.cell (World.block_lt_of_cell? w _ hw283_0)).trans hw283_0), ((HB.out.cell (World.block_lt_of_cell? w _ hw283_1)).trans hw283_1), ((HB.out.cell (World.block_lt_of_cell? w _ hw283_2)).trans hw283_2), ((HB.out.cell (World.block_lt_of_cell? w _ hw283_3)).trans hw283_3), ((HB.out.cell (World.block_lt_of_cell? w _ hw284_0)).trans hw284_0), ((HB.out.cell (World.block_lt_of_cell? w _ hw284_1)).trans hw284_1), ((HB.out.cell (World.block_lt_of_cell? w _ hw284_2)).trans hw284_2), ((HB.out.cell (World.block_lt_of_cell? w _ hw284_3)).trans hw284_3), ((HB.out.cell (World.block_lt_of_cell? w _ hw285_0)).trans hw285_0), ((HB.out.cell (World.block_lt_of_cell? w _ hw285_1)).trans hw285_1), ((HB.out.cell (World.block_lt_of_cell? w _ hw285_2)).trans hw285_2), ((HB.out.cell (World.block_lt_of_cell? w _ hw285_3)).trans hw285_3)⟩ (fun hHeld => ?_); refine with_tabW tenementlaw15_refWrites.tab5 tenementlaw15_refWrites.bits5 (fun HT_ HW_ => ?_)
   generalize wr.drew = w5 at HO_3 HB hx282_0 hx282_1 hx282_2 hx282_3 hx283_0 hx283_1 hx283_2 hx283_3 hx284_0 hx284_1 hx284_2 hx284_3 hx285_0 hx285_1 hx285_2 hx285_3 hHeld ⊢
   refine Kp_ 0 11 (Bz 25 1) (any_of HT_.out (by kernel_rfl)) ?_
   refine Kp_ 1 12 (Bz 25 3) (any_of HT_.out (by kernel_rfl)) ?_
   refine Kp_ 2 13 (Bz 25 7) (any_of HT_.out (by kernel_rfl)) ?_
   refine Kp_ 3 14 (Bz 25 15) (any_of HT_.out (by kernel_rfl)) ?_
   refine Kp_ 4 15 (Bz 25 31) (any_of HT_.out (by kernel_rfl)) ?_
   refine Kp_ 6 17 (Bz 25 95) (any_of HT_.out (by kernel_rfl)) ?_
   refine Kp_ 7 18 (Bz 25 223) (any_of HT_.out (by kernel_rfl)) ?_
   refine Kp_ 8 19 (Bz 25 479) (any_of HT_.out (by kernel_rfl)) ?_
   refine Kp_ 9 20 (Bz 25 991) (any_of HT_.out (by kernel_rfl)) ?_
   refine Kp_ 11 22 (Bz 25 3039) (any_of HT_.out (by kernel_rfl)) ?_
   refine Kp_ 12 23 (Bz 25 7135) (any_of HT_.out (by kernel_rfl)) ?_
   refine Kp_ 13 24 (Bz 25 15327) (any_of HT_.out (by kernel_rfl)) ?_
   refine Kp_ 14 25 (Bz 25 31711) (any_of HT_.out (by kernel_rfl)) ?_
   refine Kp_ 16 27 (Bz 25 97247) (any_of HT_.out (by kernel_rfl)) ?_
   refine Kp_ 17 28 (Bz 25 228319) (any_of HT_.out (by kernel_rfl)) ?_
   refine Kp_ 18 29 (Bz 25 490463) (any_of HT_.out (by kernel_rfl)) ?_
   refine Kp_ 19 30 (Bz 25 1014751) (any_of HT_.out (by kernel_rfl)) ?_
   refine Ko_ 5 16 (Bz 25 1014783) (take_ofW HT_.out HW_.out (by kernel_rfl)) hHeld ?_
   refine Ko_ 10 21 (Bz 25 1015807) (take_ofW HT_.out HW_.out (by kernel_rfl)) hHeld ?_
   refine Ko_ 15 26 (Bz 25 1048575) (take_ofW HT_.out HW_.out (by kernel_rfl)) hHeld ?_
   refine Ko_ 20 31 (Bz 25 2097151) (take_ofW HT_.out HW_.out (by kernel_rfl)) hHeld ?_
   refine Kp_ 21 32 (Bz 25 4194303) (any_of HT_.out (by kernel_rfl)) ?_
   refine one_ (i := 22) (N := some 33) (Bz 25 8388607) rfl rfl (one_of HT_.out (by kernel_rfl)) (by decide) (fun K hK => ?_)
   refine value_ (w1 := ?_) (v := ?_) (by rfl) rfl ?_ ?_
   rotate_left 2
   ·go_simp
    constructor
    ·rfl
    ·rfl
   refine hK.out _ _ ⟨(World.cell?_alloc_lt _ _ _ (World.block_lt_of_cell? _ _ (((HB.out.cell (World.block_lt_of_cell? w _ hw282_0)).trans hw282_0)))).trans (((HB.out.cell (World.block_lt_of_cell? w _ hw282_0)).trans hw282_0)), (World.cell?_alloc_lt _ _ _ (World.block_lt_of_cell? _ _ (((HB.out.cell (World.block_lt_of_cell? w _ hw282_1)).trans hw282_1)))).trans (((HB.out.cell (World.block_lt_of_cell? w _ hw282_1)).trans hw282_1)), (World.cell?_alloc_lt _ _ _ (World.block_lt_of_cell? _ _ (((HB.out.cell (World.block_lt_of_cell? w _ hw282_2)).trans hw282_2)))).trans (((HB.out.cell (World.block_lt_of_cell? w _ hw282_2)).trans hw282_2)), (World.cell?_alloc_lt _ _ _ (World.block_lt_of_cell? _ _ (((HB.out.cell (World.block_lt_of_cell? w _ hw282_3)).trans hw282_3)))).trans (((HB.out.cell (World.block_lt_of_cell? w _ hw282_3)).trans hw282_3)), (World.cell?_alloc_lt _ _ _ (World.block_lt_of_cell? _ _ (((HB.out.cell (World.block_lt_of_cell? w _ hw283_0)).trans hw283_0)))).trans (((HB.out.cell (World.block_lt_of_cell? w _ hw283_0)).trans hw283_0)), (World.cell?_alloc_lt _ _ _ (World.block_lt_of_cell? _ _ (((HB.out.cell (World.block_lt_of_cell? w _ hw283_1)).trans hw283_1)))).trans (((HB.out.cell (World.block_lt_of_cell? w _ hw283_1)).trans hw283_1)), (World.cell?_alloc_lt _ _ _ (World.block_lt_of_cell? _ _ (((HB.out.cell (World.block_lt_of_cell? w _ hw283_2)).trans hw283_2)))).trans (((HB.out.cell (World.block_lt_of_cell? w _ hw283_2)).trans hw283_2)), (World.cell?_alloc_lt _ _ _ (World.block_lt_of_cell? _ _ (((HB.out.cell (World.block_lt_of_cell? w _ hw283_3)).trans hw283_3)))).trans (((HB.out.cell (World.block_lt_of_cell? w _ hw283_3)).trans hw283_3)), (World.cell?_alloc_lt _ _ _ (World.block_lt_of_cell? _ _ (((HB.out.cell (World.block_lt_of_cell? w _ hw284_0)).trans hw284_0)))).trans (((HB.out.cell (World.block_lt_of_cell? w _ hw284_0)).trans hw284_0)), (World.cell?_alloc_lt _ _ _ (World.block_lt_of_cell? _ _ (((HB.out.cell (World.block_lt_of_cell? w _ hw284_1)).trans hw284_1)))).trans (((HB.out.cell (World.block_lt_of_cell? w _ hw284_1)).trans hw284_1)), (World.cell?_alloc_lt _ _ _ (World.block_lt_of_cell? _ _ (((HB.out.cell (World.block_lt_of_cell? w _ hw284_2)).trans hw284_2)))).trans (((HB.out.cell (World.block_lt_of_cell? w _ hw284_2)).trans hw284_2)), (World.cell?_alloc_lt _ _ _ (World.block_lt_of_cell? _ _ (((HB.out.cell (World.block_lt_of_cell? w _ hw284_3)).trans hw284_3)))).trans (((HB.out.cell (World.block_lt_of_cell? w _ hw284_3)).trans hw284_3)), (World.cell?_alloc_lt _ _ _ (World.block_lt_of_cell? _ _ (((HB.out.cell (World.block_lt_of_cell? w _ hw285_0)).trans hw285_0)))).trans (((HB.out.cell (World.block_lt_of_cell? w _ hw285_0)).trans hw285_0)), (World.cell?_alloc_lt _ _ _ (World.block_lt_of_cell? _ _ (((HB.out.cell (World.block_lt_of_cell? w _ hw285_1)).trans hw285_1)))).trans (((HB.out.cell (World.block_lt_of_cell? w _ hw285_1)).trans hw285_1)), (World.cell?_alloc_lt _ _ _ (World.block_lt_of_cell? _ _ (((HB.out.cell (World.block_lt_of_cell? w _ hw285_2)).trans hw285_2)))).trans (((HB.out.cell (World.block_lt_of_cell? w _ hw285_2)).trans hw285_2)), (World.cell?_alloc_lt _ _ _ (World.block_lt_of_cell? _ _ (((HB.out.cell (World.block_lt_of_cell? w _ hw285_3)).trans hw285_3)))).trans (((HB.out.cell (World.block_lt_of_cell? w _ hw285_3)).trans hw285_3))⟩ (fun hHeld => ?_)
   clear hK K
   refine Kn_ 33 ?_
   refine one_ (i := 23) (N := some 34) (Bz 25 16777215) rfl rfl (one_of HT_.out (by kernel_rfl)) (by decide) (fun K hK => ?_)
   refine Kd.R_append_step k117 (w0 := w) w.heap.size (by rfl) (.tmp 11) (.tmp 33) 53 117 (.agg #[(.string ⟨#[]⟩), (.string ⟨#[]⟩), (.string ⟨#[]⟩), (.bool false)]) 56 rfl Try.underlying53 info117 rfl (by decide) (by omega) u3 x3_1 (⟨(rd_T107 l0 x4_1).f0, (rd_T107 l0 x4_1).f1, (rd_T107 l0 x4_1).f2, (rd_T107 l0 x4_1).f3⟩ : S117) [.string ((rd_T107 l0 x4_1).f0), .string ((rd_T107 l0 x4_1).f1), .string ((rd_T107 l0 x4_1).f2), .bool ((rd_T107 l0 x4_1).f3)] (fun _ => True) (fun _ => False) rfl rfl ?aP (fun _ hk => hk.elim) ?aF ?aO ?aB ?aS ?aL ?_
   (case aP => exact k117_mkM _ _ _ (⟨(rd_T107 l0 x4_1).f0, (rd_T107 l0 x4_1).f1, (rd_T107 l0 x4_1).f2, (rd_T107 l0 x4_1).f3⟩ : S117))
   (case aB => exact (Ky_ HB))
   (case aF => exact (fun _ _ => trivial))
   (case aO => exact (Ku_ HO_3))
   (case aS => exact (below_size (Ky_ HB)))
   (case aL => have := LMc4.out; omega)
   intro v287 w6 ho hb hg hat
   rw [← Ny286.out] at ho
   have HO288 := Aside0.mk (ho)
   replace HB := Aside0.mk (hb)
   clear HO_3
   clear ho hb hg hat
   refine hK.out _ _ ⟨((HB.out.cell (World.block_lt_of_cell? w _ hw282_0)).trans hw282_0), ((HB.out.cell (World.block_lt_of_cell? w _ hw282_1)).trans hw282_1), ((HB.out.cell (World.block_lt_of_cell? w _ hw282_2)).trans hw282_2), ((HB.out.cell (World.block_lt_of_cell? w _ hw282_3)).trans hw282_3), ((HB.out.cell (World.block_lt_of_cell? w _ hw283_0)).trans hw283_0), ((HB.out.cell (World.block_lt_of_cell? w _ hw283_1)).trans hw283_1), ((HB.out.cell (World.block_lt_of_cell? w _ hw283_2)).trans hw283_2), ((HB.out.cell (World.block_lt_of_cell? w _ hw283_3)).trans hw283_3), ((HB.out.cell (World.block_lt_of_cell? w _ hw284_0)).trans hw284_0), ((HB.out.cell (World.block_lt_of_cell? w _ hw284_1)).trans hw284_1), ((HB.out.cell (World.block_lt_of_cell? w _ hw284_2)).trans hw284_2), ((HB.out.cell (World.block_lt_of_cell? w _ hw284_3)).trans hw284_3), ((HB.out.cell (World.block_lt_of_cell? w _ hw285_0)).trans hw285_0), ((HB.out.cell (World.block_lt_of_cell? w _ hw285_1)).trans hw285_1), ((HB.out.cell (World.block_lt_of_cell? w _ hw285_2)).trans hw285_2), ((HB.out.cell (World.block_lt_of_cell? w _ hw285_3)).trans hw285_3)⟩ (fun hHeld => ?_)
   clear hK K
   refine Kn_ 34 ?_
   refine Kp_ 24 3 (Bz 25 33554431) (any_of HT_.out (by kernel_rfl)) ?_
   refine done_ (done_of HT_.out (by kernel_rfl)) ?_
   try go_wp2
   go_roundg k1
   case measure => have := HK1.out; omega
   case rel => exact ⟨(y286), (wrap64 (x4_1 + 1)), (by first | rfl | (simp; done) | (simp [*]; done)), H', ⟨by have := HK1.out; omega⟩, ⟨by (with_reducible repeat (first | apply Kd.R_alloc | apply Kd.R_drewN | apply Kd.R_drew)); exact HO288.out⟩, ⟨Ky_ HB⟩⟩
end Go.Proofs.Ytoagfdpgnfinhaa.Q
