import Derived.Test.YtplgbkobpanbfaaQx0
import Derived.Test.YtplgbkobpanbfaaGGateBounds0
namespace Go.Proofs.Ytplgbkobpanbfaa.Q
open Go.RowKit Go.Proofs.YtplgbkobpanbfaaW.PrintWords Go.Proofs.YtplgbkobpanbfaaW.PrintLast Go.Proofs.YtplgbkobpanbfaaW.PrintMore
attribute [local go_sem] max2_int min2_int max_two min_two max_three min_three max_four min_four   -- for this text's walks alone
set_option linter.unusedVariables false
set_option linter.unusedSimpArgs false
/-! ### pack_Reader_Text: function 36 -/
def pack_Reader_Text.f (k : Nat) (a0_0 : ByteArray) (a0_1 : Bool) (a1 : Int) : Option (ByteArray × ByteArray × Bool) := (pack_Reader_Vary.f k a0_0 a0_1).bind fun bt138 => (if bt138.2.2 = true then ((pack_bad.f).bind fun bt141 => (some ((⟨#[]⟩ : ByteArray), bt141.1, bt141.2))) else (if a1 < 0 then ((pack_bad.f).bind fun bt143 => (some ((⟨#[]⟩ : ByteArray), bt143.1, bt143.2))) else (if bt138.1 > (IntKind.u64.wrap (mn a1 (bt138.2.1.size : Int))) then ((pack_bad.f).bind fun bt145 => (some ((⟨#[]⟩ : ByteArray), bt145.1, bt145.2))) else (if 0 ≤ bt138.1 then (if bt138.1 ≤ (bt138.2.1.size : Int) then (some (bt138.2.1.extract 0 (bt138.1 : Int).toNat, bt138.2.1.extract (bt138.1 : Int).toNat bt138.2.1.size, false)) else (none)) else (none)))))
theorem pack_Reader_Text.mono : ∀ a0 a1 a2 k, LeO (pack_Reader_Text.f k a0 a1 a2) (pack_Reader_Text.f (k + 1) a0 a1 a2) := by
  intro a0 a1 a2 k
  unfold pack_Reader_Text.f
  repeat' first
      | (with_reducible exact pack_Reader_Vary.mono _ _ _)
      | (with_reducible exact LeO.refl _)
      | (with_reducible exact LeO.none _)
      | (with_reducible refine LeO.ite ?_ ?_)
      | (with_reducible refine LeO.bind ?_ (fun _ => ?_))
      | exact pack_Reader_Vary.mono _ _ _
      | exact LeO.none _
      | refine LeO.ite ?_ ?_
      | refine LeO.bind ?_ (fun _ => ?_)
def pack_Reader_Text.T4 : Bool × List (List Nat × List Nat) := (true, [([], []), ([0], [0]), ([], []), ([1, 2], [1, 2]), ([], []), ([4], [4]), ([], []), ([5, 6], [5, 6]), ([7], [7]), ([3, 0, 1, 2, 3], [3]), ([8, 9, 0, 1, 2, 3, 4, 5, 6, 7, 8, 9], [8])])
def pack_Reader_Text.B4 : List Nat := [0, 1, 0, 7, 0, 16, 0, 112, 240, 15, 1023]
theorem pack_Reader_Text.tab4 : rtab .any (opsOf Try.f36 4) = pack_Reader_Text.T4 := by kernel_rfl
theorem pack_Reader_Text.bits4 : waitsOk pack_Reader_Text.T4.2 pack_Reader_Text.B4 = true := by kernel_rfl
set_option maxHeartbeats 8000000 in
set_option maxRecDepth 100000 in
theorem pack_Reader_Text.calls (k : Nat) (a0_0 : ByteArray) (a0_1 : Bool) (a1 : Int) (r1 : ByteArray) (r2 : ByteArray) (r3 : Bool) (w : World) (h : pack_Reader_Text.f k a0_0 a0_1 a1 = some (r1, r2, r3)) :
    Calls Try.prog 36 #[.agg #[.string a0_0, .bool a0_1], .int .i64 a1] w fun e w' => e = .returned (.tuple #[.string r1, .agg #[.string r2, .bool r3]]) ∧ Below w.heap.size w w' := by
  have hu81 := Try.underlying81
  have HB := Aside0.mk (Below.refl w.heap.size w)
  have H : ((pack_Reader_Vary.f k a0_0 a0_1).bind fun bt138 => (if bt138.2.2 = true then ((pack_bad.f).bind fun bt141 => (some ((⟨#[]⟩ : ByteArray), bt141.1, bt141.2))) else (if a1 < 0 then ((pack_bad.f).bind fun bt143 => (some ((⟨#[]⟩ : ByteArray), bt143.1, bt143.2))) else (if bt138.1 > (IntKind.u64.wrap (mn a1 (bt138.2.1.size : Int))) then ((pack_bad.f).bind fun bt145 => (some ((⟨#[]⟩ : ByteArray), bt145.1, bt145.2))) else (if 0 ≤ bt138.1 then (if bt138.1 ≤ (bt138.2.1.size : Int) then (some (bt138.2.1.extract 0 (bt138.1 : Int).toNat, bt138.2.1.extract (bt138.1 : Int).toNat bt138.2.1.size, false)) else (none)) else (none)))))) = some (r1, r2, r3) := h
  clear h
  replace H := Option.bind_eq_some_iff.mp H
  obtain ⟨⟨t138, t139, t140⟩, A30, H⟩ := H
  replace H : (if t140 = true then ((pack_bad.f).bind fun bt141 => (some ((⟨#[]⟩ : ByteArray), bt141.1, bt141.2))) else (if a1 < 0 then ((pack_bad.f).bind fun bt143 => (some ((⟨#[]⟩ : ByteArray), bt143.1, bt143.2))) else (if t138 > (IntKind.u64.wrap (mn a1 (t139.size : Int))) then ((pack_bad.f).bind fun bt145 => (some ((⟨#[]⟩ : ByteArray), bt145.1, bt145.2))) else (if 0 ≤ t138 then (if t138 ≤ (t139.size : Int) then (some (t139.extract 0 (t138 : Int).toNat, t139.extract (t138 : Int).toNat t139.size, false)) else (none)) else (none))))) = some (r1, r2, r3) := H
  have A3 := Aside0.mk A30
  clear A30
  by_cases c4 : t140 = true
  · subst c4
    have H1 : ((pack_bad.f).bind fun bt141 => (some ((⟨#[]⟩ : ByteArray), bt141.1, bt141.2))) = some (r1, r2, r3) := by rw [if_pos rfl] at H; exact H
    clear H
    have H := H1
    clear H1
    replace H := Option.bind_eq_some_iff.mp H
    obtain ⟨⟨t141, t142⟩, A50, H⟩ := H
    replace H : (some ((⟨#[]⟩ : ByteArray), t141, t142)) = some (r1, r2, r3) := H
    have A5 := Aside0.mk A50
    clear A50
    simp only [Option.some.injEq, Prod.mk.injEq] at H
    obtain ⟨rfl, rfl, rfl⟩ := H
    go_enter Try.func36, Try.ntmps36
    go_wp2_with (first | ((with_reducible refine gate_dst (N := 2) rfl ?_); refine box_event ?hg (N := 2) ?hd (cs := #[.string a0_0, .bool a0_1]) (t := 81) ?hr ?_; (case hd => rfl); (case hg => rfl); (case hr => first | (go_simp; done) | (go_simp; rfl)); intro gb136 hg w6 hbox hb; have BK136 := Aside0.mk (hbox); have GW136 := Kw_ HB hg; have GE136 := GW136; replace HB := Ks_ HB hb; clear hb hbox hg) | ((with_reducible refine gate_dst (N := 5) rfl ?_); refine box_event ?hg (N := 5) ?hd (cs := #[.string (⟨#[]⟩ : ByteArray), .bool false]) (t := 81) ?hr ?_; (case hd => rfl); (case hg => rfl); (case hr => first | (go_simp; done) | (go_simp; rfl)); intro gb137 hg w7 hbox hb; have BK137 := Aside0.mk (hbox); have GW137 := Kw_ HB hg; have GE137 := GW137; have NB136_137 := Kl_ BK136 hg; have NB137_136 := Kr_ BK136 hg; replace BK136 := Kb_ BK136 hb; replace HB := Ks_ HB hb; clear hb hbox hg; have hnb8 := NB136_137.out; have hnc8 := NB137_136.out; obtain ⟨hcz9_0, hcz9_1, hfz9_0, hfz9_1⟩ := Ke2_ BK136.out) | ((with_reducible refine gate_callee (f := 51) rfl ?_); refine Kg_ (some 9) rfl rfl Try.func51 (by kernel_rfl) rfl #[.agg #[.string a0_0, .bool a0_1]] rfl ?_; (with_reducible refine (pack_Reader_Vary.calls k a0_0 a0_1 t138 t139 true _ A3.out).mono ?_); rintro e w10 ⟨rfl, hb⟩; refine ⟨_, rfl, ?_⟩; replace BK136 := Kb_ BK136 hb; replace BK137 := Kb_ BK137 hb; replace HB := Ks_ HB hb; (try clear hb); (try clear hb2); (try clear hk); (try clear hi); obtain ⟨hcz11_0, hcz11_1, hfz11_0, hfz11_1⟩ := Ke2_ BK136.out) | ((with_reducible refine gate_callee (f := 52) rfl ?_); refine Kg_ (some 28) rfl rfl Try.func52 (by kernel_rfl) rfl #[] rfl ?_; (with_reducible refine (pack_bad.calls  t141 t142 _ A5.out).mono ?_); rintro e w12 ⟨rfl, hb⟩; refine ⟨_, rfl, ?_⟩; replace BK136 := Aside0.mk (blk_below (g := gb136) (o := .cells #[.string t139, .bool true] 81 (0, 0)) (by refine Kv_ ?_; refine blk_put (cs := #[.string t139, .bool a0_1]) ?_ 1 _ rfl; refine Kv_ ?_; refine blk_put (cs := #[.string a0_0, .bool a0_1]) ?_ 0 _ rfl; exact Kq_ BK136) hb); replace BK137 := Kf_ BK137 NB137_136 hb; replace HB := Kt_ HB GE136 hb; (try clear hb); (try clear hb2); (try clear hk); (try clear hi); obtain ⟨hcz13_0, hcz13_1, hfz13_0, hfz13_1⟩ := Ke2_ BK137.out))
    refine bodyPost_ret (results_tc rfl _ _ gb137 81 #[.string t141, .bool t142] (0, 0) _ rfl (by refine Kv_ ?_; refine blk_put (cs := #[.string t141, .bool false]) ?_ 1 _ rfl; refine Kv_ ?_; refine blk_put (cs := #[.string (⟨#[]⟩ : ByteArray), .bool false]) ?_ 0 _ rfl; exact Kq_ BK137) Try.underlying81 rfl (by kernel_rfl)) rfl ?_
    exact ⟨Kh_, by repeat (first | (with_reducible first | exact HB.out | apply below_alloc | apply pw_below_drewN | apply below_drew1 | refine below_set ?_ GE136.out | refine below_set ?_ GE137.out) | exact HB.out)⟩
  replace c4 := Bool.eq_false_iff.mpr c4
  subst c4
  have H1 : (if a1 < 0 then ((pack_bad.f).bind fun bt143 => (some ((⟨#[]⟩ : ByteArray), bt143.1, bt143.2))) else (if t138 > (IntKind.u64.wrap (mn a1 (t139.size : Int))) then ((pack_bad.f).bind fun bt145 => (some ((⟨#[]⟩ : ByteArray), bt145.1, bt145.2))) else (if 0 ≤ t138 then (if t138 ≤ (t139.size : Int) then (some (t139.extract 0 (t138 : Int).toNat, t139.extract (t138 : Int).toNat t139.size, false)) else (none)) else (none)))) = some (r1, r2, r3) := by rw [if_neg (show ¬ (false = true) by decide)] at H; exact H
  clear H
  have H := H1
  clear H1
  by_cases c14 : a1 < 0
  · rw [if_pos c14] at H
    have c14b0 : decide (a1 < 0) = true := decide_eq_true c14
    clear c14
    replace H := Option.bind_eq_some_iff.mp H
    obtain ⟨⟨t143, t144⟩, A150, H⟩ := H
    replace H : (some ((⟨#[]⟩ : ByteArray), t143, t144)) = some (r1, r2, r3) := H
    have A15 := Aside0.mk A150
    clear A150
    simp only [Option.some.injEq, Prod.mk.injEq] at H
    obtain ⟨rfl, rfl, rfl⟩ := H
    go_enter Try.func36, Try.ntmps36
    go_wp2_with (first | ((with_reducible refine gate_dst (N := 2) rfl ?_); refine box_event ?hg (N := 2) ?hd (cs := #[.string a0_0, .bool a0_1]) (t := 81) ?hr ?_; (case hd => rfl); (case hg => rfl); (case hr => first | (go_simp; done) | (go_simp; rfl)); intro gb136 hg w16 hbox hb; have BK136 := Aside0.mk (hbox); have GW136 := Kw_ HB hg; have GE136 := GW136; replace HB := Ks_ HB hb; clear hb hbox hg) | ((with_reducible refine gate_dst (N := 5) rfl ?_); refine box_event ?hg (N := 5) ?hd (cs := #[.string (⟨#[]⟩ : ByteArray), .bool false]) (t := 81) ?hr ?_; (case hd => rfl); (case hg => rfl); (case hr => first | (go_simp; done) | (go_simp; rfl)); intro gb137 hg w17 hbox hb; have BK137 := Aside0.mk (hbox); have GW137 := Kw_ HB hg; have GE137 := GW137; have NB136_137 := Kl_ BK136 hg; have NB137_136 := Kr_ BK136 hg; replace BK136 := Kb_ BK136 hb; replace HB := Ks_ HB hb; clear hb hbox hg; have hnb18 := NB136_137.out; have hnc18 := NB137_136.out; obtain ⟨hcz19_0, hcz19_1, hfz19_0, hfz19_1⟩ := Ke2_ BK136.out) | ((with_reducible refine gate_callee (f := 51) rfl ?_); refine Kg_ (some 9) rfl rfl Try.func51 (by kernel_rfl) rfl #[.agg #[.string a0_0, .bool a0_1]] rfl ?_; (with_reducible refine (pack_Reader_Vary.calls k a0_0 a0_1 t138 t139 false _ A3.out).mono ?_); rintro e w20 ⟨rfl, hb⟩; refine ⟨_, rfl, ?_⟩; replace BK136 := Kb_ BK136 hb; replace BK137 := Kb_ BK137 hb; replace HB := Ks_ HB hb; (try clear hb); (try clear hb2); (try clear hk); (try clear hi); obtain ⟨hcz21_0, hcz21_1, hfz21_0, hfz21_1⟩ := Ke2_ BK136.out) | ((with_reducible refine gate_callee (f := 52) rfl ?_); refine Kg_ (some 28) rfl rfl Try.func52 (by kernel_rfl) rfl #[] rfl ?_; (with_reducible refine (pack_bad.calls  t143 t144 _ A15.out).mono ?_); rintro e w22 ⟨rfl, hb⟩; refine ⟨_, rfl, ?_⟩; replace BK136 := Aside0.mk (blk_below (g := gb136) (o := .cells #[.string t139, .bool false] 81 (0, 0)) (by refine Kv_ ?_; refine blk_put (cs := #[.string t139, .bool a0_1]) ?_ 1 _ rfl; refine Kv_ ?_; refine blk_put (cs := #[.string a0_0, .bool a0_1]) ?_ 0 _ rfl; exact Kq_ BK136) hb); replace BK137 := Kf_ BK137 NB137_136 hb; replace HB := Kt_ HB GE136 hb; (try clear hb); (try clear hb2); (try clear hk); (try clear hi); obtain ⟨hcz23_0, hcz23_1, hfz23_0, hfz23_1⟩ := Ke2_ BK137.out))
    refine bodyPost_ret (results_tc rfl _ _ gb137 81 #[.string t143, .bool t144] (0, 0) _ rfl (by refine Kv_ ?_; refine blk_put (cs := #[.string t143, .bool false]) ?_ 1 _ rfl; refine Kv_ ?_; refine blk_put (cs := #[.string (⟨#[]⟩ : ByteArray), .bool false]) ?_ 0 _ rfl; exact Kq_ BK137) Try.underlying81 rfl (by kernel_rfl)) rfl ?_
    exact ⟨Kh_, by repeat (first | (with_reducible first | exact HB.out | apply below_alloc | apply pw_below_drewN | apply below_drew1 | refine below_set ?_ GE136.out | refine below_set ?_ GE137.out) | exact HB.out)⟩
  rw [if_neg c14] at H
  have c14b0 : decide (a1 < 0) = false := decide_eq_false c14
  clear c14
  obtain ⟨ji24, hji24⟩ : ∃ j_ : Int, (mn a1 (t139.size : Int)) = j_ := ⟨_, rfl⟩
  replace H : (if t138 > (IntKind.u64.wrap (ji24)) then ((pack_bad.f).bind fun bt145 => (some ((⟨#[]⟩ : ByteArray), bt145.1, bt145.2))) else (if 0 ≤ t138 then (if t138 ≤ (t139.size : Int) then (some (t139.extract 0 (t138 : Int).toNat, t139.extract (t138 : Int).toNat t139.size, false)) else (none)) else (none))) = some (r1, r2, r3) := by first | (rw [hji24] at H; exact H) | (simp only [hji24] at H ⊢; exact H)
  (try rw [hji24] at A3)
  have hji24_ : (if (t139.size : Int) < a1 then (t139.size : Int) else a1) = ji24 := hji24
  by_cases c25 : t138 > (IntKind.u64.wrap (ji24))
  · rw [if_pos c25] at H
    have c25b0 : decide ((IntKind.u64.wrap (ji24)) < t138) = true := decide_eq_true c25
    clear c25
    replace H := Option.bind_eq_some_iff.mp H
    obtain ⟨⟨t145, t146⟩, A260, H⟩ := H
    replace H : (some ((⟨#[]⟩ : ByteArray), t145, t146)) = some (r1, r2, r3) := H
    have A26 := Aside0.mk A260
    clear A260
    simp only [Option.some.injEq, Prod.mk.injEq] at H
    obtain ⟨rfl, rfl, rfl⟩ := H
    go_enter Try.func36, Try.ntmps36
    go_wp2_with (first | ((with_reducible refine gate_dst (N := 2) rfl ?_); refine box_event ?hg (N := 2) ?hd (cs := #[.string a0_0, .bool a0_1]) (t := 81) ?hr ?_; (case hd => rfl); (case hg => rfl); (case hr => first | (go_simp; done) | (go_simp; rfl)); intro gb136 hg w27 hbox hb; have BK136 := Aside0.mk (hbox); have GW136 := Kw_ HB hg; have GE136 := GW136; replace HB := Ks_ HB hb; clear hb hbox hg) | ((with_reducible refine gate_dst (N := 5) rfl ?_); refine box_event ?hg (N := 5) ?hd (cs := #[.string (⟨#[]⟩ : ByteArray), .bool false]) (t := 81) ?hr ?_; (case hd => rfl); (case hg => rfl); (case hr => first | (go_simp; done) | (go_simp; rfl)); intro gb137 hg w28 hbox hb; have BK137 := Aside0.mk (hbox); have GW137 := Kw_ HB hg; have GE137 := GW137; have NB136_137 := Kl_ BK136 hg; have NB137_136 := Kr_ BK136 hg; replace BK136 := Kb_ BK136 hb; replace HB := Ks_ HB hb; clear hb hbox hg; have hnb29 := NB136_137.out; have hnc29 := NB137_136.out; obtain ⟨hcz30_0, hcz30_1, hfz30_0, hfz30_1⟩ := Ke2_ BK136.out) | ((with_reducible refine gate_callee (f := 51) rfl ?_); refine Kg_ (some 9) rfl rfl Try.func51 (by kernel_rfl) rfl #[.agg #[.string a0_0, .bool a0_1]] rfl ?_; (with_reducible refine (pack_Reader_Vary.calls k a0_0 a0_1 t138 t139 false _ A3.out).mono ?_); rintro e w31 ⟨rfl, hb⟩; refine ⟨_, rfl, ?_⟩; replace BK136 := Kb_ BK136 hb; replace BK137 := Kb_ BK137 hb; replace HB := Ks_ HB hb; (try clear hb); (try clear hb2); (try clear hk); (try clear hi); obtain ⟨hcz32_0, hcz32_1, hfz32_0, hfz32_1⟩ := Ke2_ BK136.out) | ((with_reducible refine gate_callee (f := 52) rfl ?_); refine Kg_ (some 28) rfl rfl Try.func52 (by kernel_rfl) rfl #[] rfl ?_; (with_reducible refine (pack_bad.calls  t145 t146 _ A26.out).mono ?_); rintro e w33 ⟨rfl, hb⟩; refine ⟨_, rfl, ?_⟩; replace BK136 := Aside0.mk (blk_below (g := gb136) (o := .cells #[.string t139, .bool false] 81 (0, 0)) (by refine Kv_ ?_; refine blk_put (cs := #[.string t139, .bool a0_1]) ?_ 1 _ rfl; refine Kv_ ?_; refine blk_put (cs := #[.string a0_0, .bool a0_1]) ?_ 0 _ rfl; exact Kq_ BK136) hb); replace BK137 := Kf_ BK137 NB137_136 hb; replace HB := Kt_ HB GE136 hb; (try clear hb); (try clear hb2); (try clear hk); (try clear hi); obtain ⟨hcz34_0, hcz34_1, hfz34_0, hfz34_1⟩ := Ke2_ BK137.out))
    refine bodyPost_ret (results_tc rfl _ _ gb137 81 #[.string t145, .bool t146] (0, 0) _ rfl (by refine Kv_ ?_; refine blk_put (cs := #[.string t145, .bool false]) ?_ 1 _ rfl; refine Kv_ ?_; refine blk_put (cs := #[.string (⟨#[]⟩ : ByteArray), .bool false]) ?_ 0 _ rfl; exact Kq_ BK137) Try.underlying81 rfl (by kernel_rfl)) rfl ?_
    exact ⟨by first | rfl | (simp [errW_none, errW_some] <;> rfl) | (simp only [← hji24]; first | rfl | (simp [errW_none, errW_some] <;> rfl)) | (simp [*, errW_none, errW_some] <;> rfl), by repeat (first | (with_reducible first | exact HB.out | apply below_alloc | apply pw_below_drewN | apply below_drew1 | refine below_set ?_ GE136.out | refine below_set ?_ GE137.out) | exact HB.out)⟩
  rw [if_neg c25] at H
  have c25b0 : decide ((IntKind.u64.wrap (ji24)) < t138) = false := decide_eq_false c25
  clear c25
  by_cases c35 : 0 ≤ t138
  rotate_left
  · rw [if_neg c35] at H
    exact absurd H (by simp)
  rw [if_pos c35] at H
  have c35b0 := eq_true c35
  have c35b1 : decide (0 ≤ t138) = true := decide_eq_true c35
  clear c35
  by_cases c36 : t138 ≤ (t139.size : Int)
  rotate_left
  · rw [if_neg c36] at H
    exact absurd H (by simp)
  rw [if_pos c36] at H
  have c36b0 := eq_true c36
  have c36b1 : decide (t138 ≤ (t139.size : Int)) = true := decide_eq_true c36
  clear c36
  have c37b0 := eq_true (of_decide_eq_true (by first | (with_reducible assumption) | assumption) : 0 ≤ t138)
  have c38b0 := eq_true (of_decide_eq_true (by first | (with_reducible assumption) | assumption) : t138 ≤ (t139.size : Int))
  simp only [Option.some.injEq, Prod.mk.injEq] at H
  obtain ⟨rfl, rfl, rfl⟩ := H
  go_enter Try.func36, Try.ntmps36
  try go_wp2_with (first | ((with_reducible refine gate_dst (N := 2) rfl ?_); refine box_event ?hg (N := 2) ?hd (cs := #[.string a0_0, .bool a0_1]) (t := 81) ?hr ?_; (case hd => rfl); (case hg => rfl); (case hr => first | (go_simp; done) | (go_simp; rfl)); intro gb136 hg w39 hbox hb; have BK136 := Aside0.mk (hbox); have GW136 := Kw_ HB hg; have GE136 := GW136; replace HB := Ks_ HB hb; clear hb hbox hg) | ((with_reducible refine gate_dst (N := 5) rfl ?_); refine box_event ?hg (N := 5) ?hd (cs := #[.string (⟨#[]⟩ : ByteArray), .bool false]) (t := 81) ?hr ?_; (case hd => rfl); (case hg => rfl); (case hr => first | (go_simp; done) | (go_simp; rfl)); intro gb137 hg w40 hbox hb; have BK137 := Aside0.mk (hbox); have GW137 := Kw_ HB hg; have GE137 := GW137; have NB136_137 := Kl_ BK136 hg; have NB137_136 := Kr_ BK136 hg; replace BK136 := Kb_ BK136 hb; replace HB := Ks_ HB hb; clear hb hbox hg; have hnb41 := NB136_137.out; have hnc41 := NB137_136.out; obtain ⟨hcz42_0, hcz42_1, hfz42_0, hfz42_1⟩ := Ke2_ BK136.out) | ((with_reducible refine gate_callee (f := 51) rfl ?_); refine Kg_ (some 9) rfl rfl Try.func51 (by kernel_rfl) rfl #[.agg #[.string a0_0, .bool a0_1]] rfl ?_; (with_reducible refine (pack_Reader_Vary.calls k a0_0 a0_1 t138 t139 false _ A3.out).mono ?_); rintro e w43 ⟨rfl, hb⟩; refine ⟨_, rfl, ?_⟩; replace BK136 := Kb_ BK136 hb; replace BK137 := Kb_ BK137 hb; replace HB := Ks_ HB hb; (try clear hb); (try clear hb2); (try clear hk); (try clear hi); obtain ⟨hcz44_0, hcz44_1, hfz44_0, hfz44_1⟩ := Ke2_ BK136.out))
  have n0_ : Aside0 (((w43.setCell ⟨gb136, 0, none⟩ (.string t139)).setCell ⟨gb136, 1, none⟩ (.bool false)).heap[gb136]? = some (.cells #[.string t139, .bool false] 81 (0, 0))) := ⟨by refine Kv_ ?_; refine blk_put (cs := #[.string t139, .bool a0_1]) ?_ 1 _ rfl; refine Kv_ ?_; refine blk_put (cs := #[.string a0_0, .bool a0_1]) ?_ 0 _ rfl; exact Kq_ BK136⟩
  have n1_ : Aside0 (((w43.setCell ⟨gb136, 0, none⟩ (.string t139)).setCell ⟨gb136, 1, none⟩ (.bool false)).heap[gb137]? = some (.cells #[.string (⟨#[]⟩ : ByteArray), .bool false] 81 (0, 0))) := ⟨by (repeat (first | (with_reducible first | refine blk_drewN ?_ _ | refine blk_drew ?_ | refine blk_alloc ?_ _) | refine blk_far ?_ NB137_136.out _)); exact BK137.out⟩
  have n2_ : Aside0 (Below w.heap.size w ((w43.setCell ⟨gb136, 0, none⟩ (.string t139)).setCell ⟨gb136, 1, none⟩ (.bool false))) := ⟨by repeat (first | (with_reducible first | exact HB.out | apply below_alloc | apply pw_below_drewN | apply below_drew1 | refine below_set ?_ GE136.out | refine below_set ?_ GE137.out) | exact HB.out)⟩
  (try clear BK136)
  (try clear BK137)
  (try clear HB)
  generalize ((w43.setCell ⟨gb136, 0, none⟩ (.string t139)).setCell ⟨gb136, 1, none⟩ (.bool false)) = w45 at n0_ n1_ n2_ ⊢
  have BK136 := n0_
  have BK137 := n1_
  have HB := n2_
  clear n0_ n1_ n2_
  replace BK136 := Kd_ BK136
  replace BK137 := Kd_ BK137
  replace HB := Aside0.mk (below_drew1 HB.out)
  refine start_ (n := 11) (S := fun w' => w'.cell? ⟨gb136, 0, none⟩ = some (.string t139) ∧ w'.cell? ⟨gb136, 1, none⟩ = some (.bool false)) (ds := []) #[false, false, false, false, false, false, false, false, false, false, false] (by kernel_rfl) rfl rfl (Kc2_ BK136.out) (fun hHeld => ?_); refine with_tabW pack_Reader_Text.tab4 pack_Reader_Text.bits4 (fun HT_ HW_ => ?_)
  generalize w45.drew = w46 at BK136 BK137 HB hHeld ⊢
  refine pure_ (i := 0) (N := some 29) (v := ?_) (a' := ?_) #[true, false, false, false, false, false, false, false, false, false, false] rfl rfl (any_of HT_.out (by kernel_rfl)) (fun _ _ _ h => h) (Or.inl ⟨by rfl, ?_⟩) ?_ ?_
  rotate_left
  · intro w'
    go_simp
    with_reducible rfl
  rotate_left
  · simp only [Act.put, List.setIfInBounds_toArray, List.set_cons_zero, List.set_cons_succ, i64_w, i32_w]
    rfl
  refine pure_ (i := 2) (N := some 31) (v := ?_) (a' := ?_) #[true, false, true, false, false, false, false, false, false, false, false] rfl rfl (any_of HT_.out (by kernel_rfl)) (fun _ _ _ h => h) (Or.inl ⟨by rfl, ?_⟩) ?_ ?_
  rotate_left
  · intro w'
    go_simp
    with_reducible rfl
  rotate_left
  · simp only [Act.put, List.setIfInBounds_toArray, List.set_cons_zero, List.set_cons_succ, i64_w, i32_w]
    rfl
  refine pure_ (i := 4) (N := some 33) (v := ?_) (a' := ?_) #[true, false, true, false, true, false, false, false, false, false, false] rfl rfl (any_of HT_.out (by kernel_rfl)) (fun _ _ _ h => h) (Or.inl ⟨by rfl, ?_⟩) ?_ ?_
  rotate_left
  · intro w'
    go_simp
    with_reducible rfl
  rotate_left
  · simp only [Act.put, List.setIfInBounds_toArray, List.set_cons_zero, List.set_cons_succ, i64_w, i32_w]
    rfl
  refine pure_ (i := 6) (N := some 35) (v := ?_) (a' := ?_) #[true, false, true, false, true, false, true, false, false, false, false] rfl rfl (any_of HT_.out (by kernel_rfl)) (fun _ _ _ h => h) (Or.inl ⟨by rfl, ?_⟩) ?_ ?_
  rotate_left
  · intro w'
    go_simp
    with_reducible rfl
  rotate_left
  · simp only [Act.put, List.setIfInBounds_toArray, List.set_cons_zero, List.set_cons_succ, i64_w, i32_w]
    rfl
  refine take_ (i := 1) (N := some 30) (v := ?_) (a' := ?_) #[true, true, true, false, true, false, true, false, false, false, false] rfl rfl (take_ofW HT_.out HW_.out (by kernel_rfl)) (fun _ _ _ h => h) (Or.inl ⟨by rfl, ?_⟩) hHeld ?_ ?_
  rotate_left
  · rintro w' ⟨s0, s1⟩
    go_simp
    with_reducible rfl
  rotate_left
  · simp only [Act.put, List.setIfInBounds_toArray, List.set_cons_zero, List.set_cons_succ, i64_w, i32_w]
    rfl
  refine pure_ (i := 3) (N := some 32) (v := ?_) (a' := ?_) #[true, true, true, true, true, false, true, false, false, false, false] rfl rfl (any_of HT_.out (by kernel_rfl)) (fun _ _ _ h => h) (Or.inl ⟨by rfl, ?_⟩) ?_ ?_
  rotate_left
  · intro w'
    go_simp
    with_reducible rfl
  rotate_left
  · simp only [Act.put, List.setIfInBounds_toArray, List.set_cons_zero, List.set_cons_succ, i64_w, i32_w]
    rfl
  refine pure_ (i := 9) (N := some 4) (v := ?_) (a' := ?_) #[true, true, true, true, true, false, true, false, false, true, false] rfl rfl (any_of HT_.out (by kernel_rfl)) (fun _ _ _ h => h) (Or.inl ⟨by rfl, ?_⟩) ?_ ?_
  rotate_left
  · intro w'
    go_simp
    with_reducible rfl
  rotate_left
  · simp only [Act.put, List.setIfInBounds_toArray, List.set_cons_zero, List.set_cons_succ, i64_w, i32_w]
    rfl
  refine take_ (i := 5) (N := some 34) (v := ?_) (a' := ?_) #[true, true, true, true, true, true, true, false, false, true, false] rfl rfl (take_ofW HT_.out HW_.out (by kernel_rfl)) (fun _ _ _ h => h) (Or.inl ⟨by rfl, ?_⟩) hHeld ?_ ?_
  rotate_left
  · rintro w' ⟨s0, s1⟩
    go_simp
    with_reducible rfl
  rotate_left
  · simp only [Act.put, List.setIfInBounds_toArray, List.set_cons_zero, List.set_cons_succ, i64_w, i32_w]
    rfl
  refine pure_ (i := 7) (N := some 36) (v := ?_) (a' := ?_) #[true, true, true, true, true, true, true, true, false, true, false] rfl rfl (any_of HT_.out (by kernel_rfl)) (fun _ _ _ h => h) (Or.inl ⟨by rfl, ?_⟩) ?_ ?_
  rotate_left
  · intro w'
    go_simp
    with_reducible rfl
  rotate_left
  · simp only [Act.put, List.setIfInBounds_toArray, List.set_cons_zero, List.set_cons_succ, i64_w, i32_w]
    rfl
  refine pure_ (i := 8) (N := some 37) (v := ?_) (a' := ?_) #[true, true, true, true, true, true, true, true, true, true, false] rfl rfl (any_of HT_.out (by kernel_rfl)) (fun _ _ _ h => h) (Or.inl ⟨by rfl, ?_⟩) ?_ ?_
  rotate_left
  · intro w'
    go_simp
    with_reducible rfl
  rotate_left
  · simp only [Act.put, List.setIfInBounds_toArray, List.set_cons_zero, List.set_cons_succ, i64_w, i32_w]
    rfl
  refine one_ (i := 10) (N := none) #[true, true, true, true, true, true, true, true, true, true, true] rfl rfl (one_of HT_.out (by kernel_rfl)) (by decide) (fun K hK => ?_)
  have hs47 : w46.cell? ⟨gb137, 0, none⟩ = some (.string (⟨#[]⟩ : ByteArray)) := (blk_cell BK137.out 0).trans rfl
  have hfs47 := blk_frozen BK137.out 0
  have hns47_0 := NB136_137.out
  have hms47_0 := NB137_136.out
  have hs48 : w46.cell? ⟨gb137, 1, none⟩ = some (.bool false) := (blk_cell BK137.out 1).trans rfl
  have hfs48 := blk_frozen BK137.out 1
  have hns48_0 := NB136_137.out
  have hms48_0 := NB137_136.out
  refine skip_ (w1 := ?_) (by rfl) rfl ?_ ?_
  rotate_left
  · go_simp
    rfl
  refine hK.out _ _ ⟨((cell_far (p := ⟨gb137, _, none⟩) NB136_137.out _).trans (((cell_far (p := ⟨gb137, _, none⟩) NB136_137.out _).trans (hHeld.1)))), ((cell_far (p := ⟨gb137, _, none⟩) NB136_137.out _).trans (((cell_far (p := ⟨gb137, _, none⟩) NB136_137.out _).trans (hHeld.2))))⟩ (fun hHeld => ?_)
  clear hK K
  refine done_ (done_of HT_.out (by kernel_rfl)) ?_
  try go_wp2
  refine bodyPost_ret (results_tc rfl _ _ gb137 81 #[.string (t139.extract (t138 : Int).toNat t139.size), .bool false] (0, 0) _ rfl (by refine Kv_ ?_; refine blk_put (cs := #[.string (t139.extract (t138 : Int).toNat t139.size), .bool false]) ?_ 1 _ rfl; refine Kv_ ?_; refine blk_put (cs := #[.string (⟨#[]⟩ : ByteArray), .bool false]) ?_ 0 _ rfl; exact Kq_ BK137) Try.underlying81 rfl (by kernel_rfl)) rfl ?_
  exact ⟨by first | rfl | (simp [errW_none, errW_some] <;> rfl) | (simp only [← hji24]; first | rfl | (simp [errW_none, errW_some] <;> rfl)) | (simp [*, errW_none, errW_some] <;> rfl), by repeat (first | (with_reducible first | exact HB.out | apply below_alloc | apply pw_below_drewN | apply below_drew1 | refine below_set ?_ GE136.out | refine below_set ?_ GE137.out) | exact HB.out)⟩
/-! ### pack_Reader_Number: function 37 -/
-- FOREIGN: ranges over []byte(s)
theorem pack_Reader_Number.bytesWorld_frozen (w : World) (e : TypeId) (s : ByteArray) (a : Addr) (ha : a.block < w.heap.size) : (Lib.bytesWorld w e s).frozen? a = w.frozen? a :=
  (bytes_below (Below.refl _ _) (Nat.le_refl _) e s).frozen ha
theorem pack_Reader_Number.bt_extract0 (s : ByteArray) (n k : Nat) (hk : k < n) (hs : n ≤ s.size) : bt (s.extract 0 n) k = bt s k := by
  unfold bt
  rw [dif_pos (by simp; omega), dif_pos (by simp; omega)]
  simp [ByteArray.getElem_extract]
def rnum (s : ByteArray) : Nat → Int
  | 0 => 0
  | k + 1 => Go.bits .or .u64 (IntKind.u64.wrap (rnum s k * 256)) (IntKind.u64.wrap (bt s k))
def pack_Reader_Number.f (a0_0 : ByteArray) (a0_1 : Bool) (a1 : Int) : Option (Int × ByteArray × Bool) :=
  if a0_0.size ≤ 9223372036854775807 then
    (if a0_1 = true then some (0, (⟨#[]⟩ : ByteArray), true) else if a1 < 1 then some (0, (⟨#[]⟩ : ByteArray), true) else if 8 < a1 then some (0, (⟨#[]⟩ : ByteArray), true)
      else if (a0_0.size : Int) < a1 then some (0, (⟨#[]⟩ : ByteArray), true) else some (rnum a0_0 a1.toNat, a0_0.extract a1.toNat a0_0.size, false))
  else none
theorem pack_Reader_Number.some_ (s : ByteArray) (n : Nat) (h1 : 1 ≤ n) (h8 : n ≤ 8) (hs : n ≤ s.size) (hm : s.size ≤ 9223372036854775807) (w : World) :
    Calls Try.prog 37 #[.agg #[.string s, .bool false], .int .i64 n] w fun e w' => e = .returned (.tuple #[.int .u64 (rnum s n), .agg #[.string (s.extract n s.size), .bool false]]) ∧ Below w.heap.size w w' := by
  have hcv := fun W t => Lib.run_convert_string_bytes (P := Try.prog) W 9 66 5 t Try.underlying9 Try.underlying66 Try.underlying5
  have b1 : decide ((n : Int) < 1) = false := by simp; omega
  have b2 : decide ((8 : Int) < (n : Int)) = false := by simp; omega
  have b3 : decide (s.size < n) = false := by simp; omega
  go_enter Try.func37, Try.ntmps37
  go_wp2
  obtain ⟨W, hW⟩ : ∃ W, W = Lib.bytesWorld ((w.alloc (Obj.cells #[Value.string s, Value.bool false] 81)).alloc (Obj.cells #[Value.string { data := #[] }, Value.bool false] 81)) 5 (s.extract 0 n) := ⟨_, rfl⟩
  have hbel : Below w.heap.size w W := by
    rw [hW]
    exact bytes_below (((Below.refl _ _).alloc (Nat.le_refl _) _).alloc (by simp) _) (by simp; omega) _ _
  have hsz : W.heap.size = w.heap.size + 3 := by rw [hW, Lib.bytesWorld_size]; simp
  have hc0 : W.cell? ⟨w.heap.size, 0, none⟩ = some (.string s) := by
    rw [hW, Lib.bytesWorld_old _ _ _ _ (by simp; omega)]; simp [go_sem]
  have hc2 : W.cell? ⟨w.heap.size + 1, 0, none⟩ = some (.string ⟨#[]⟩) := by
    rw [hW, Lib.bytesWorld_old _ _ _ _ (by simp)]; simp [go_sem]
  have hc3 : W.cell? ⟨w.heap.size + 1, 1, none⟩ = some (.bool false) := by
    rw [hW, Lib.bytesWorld_old _ _ _ _ (by simp)]; simp [go_sem]
  have hf2 : W.frozen? ⟨w.heap.size + 1, 0, none⟩ = false := by
    rw [hW, pack_Reader_Number.bytesWorld_frozen _ _ _ _ (by simp)]; simp [go_sem]
  have hf3 : W.frozen? ⟨w.heap.size + 1, 1, none⟩ = false := by
    rw [hW, pack_Reader_Number.bytesWorld_frozen _ _ _ _ (by simp)]; simp [go_sem]
  have hel : ∀ k : Nat, k < n → W.cell? ⟨w.heap.size + 1 + 1, k, none⟩ = some (.int .u8 (bt s k)) := by
    intro k hk
    obtain ⟨_, _, hr⟩ := bytes_reads ((w.alloc (Obj.cells #[Value.string s, Value.bool false] 81)).alloc (Obj.cells #[Value.string { data := #[] }, Value.bool false] 81)) 5 (s.extract 0 n) (by simp; omega)
    rw [← hW] at hr
    obtain ⟨ad, had, hr⟩ := hr (by simp; omega)
    have hr := hr k (by simp; omega)
    simp at had
    subst had
    rw [add_plain] at hr
    rw [hr]
    have e1 : (bytesOf (s.extract 0 n)).getD k 0 = bt (s.extract 0 n) k := rd_bytesOf (s.extract 0 n) k
    rw [e1, pack_Reader_Number.bt_extract0 _ _ _ hk hs]
  rw [← hW]
  clear hW hcv
  go_loop [32, 4] (fun i v => ∃ k : Nat, k ≤ n ∧ i = .int .i64 k ∧ v = .int .u64 (rnum s k)) (fun i _ => n - (intOf i).toNat)
  case atStart => exact ⟨0, Nat.zero_le _, rfl, rfl⟩
  case round =>
    obtain ⟨k, hk, rfl, rfl⟩ := hrel
    by_cases hlt : k < n
    · have hcell := hel k hlt
      clear hel
      go_wp2
      go_round
      case rel => exact ⟨k + 1, by omega, by go_num, rfl⟩
      case measure => simp [intOf]; omega
    · obtain rfl : k = n := by omega
      clear hel
      go_wp2
      go_region
      all_goals go_wp2
      refine bodyPost_ret (v := .tuple #[.int .u64 (rnum s k), .agg #[.string (s.extract k s.size), .bool false]]) (by simp [results, Try.results37, go_sem, hc2, hc3, hf2, hf3]) rfl ⟨rfl, ?_⟩
      exact ((hbel.setCell (by simp) _).setCell (by simp) _).drew
theorem pack_Reader_Number.bad_ (s : ByteArray) (b : Bool) (a1 : Int) (h : b = true ∨ b = false ∧ (a1 < 1 ∨ 8 < a1 ∨ (s.size : Int) < a1)) (w : World) :
    Calls Try.prog 37 #[.agg #[.string s, .bool b], .int .i64 a1] w fun e w' => e = .returned (.tuple #[.int .u64 0, .agg #[.string ⟨#[]⟩, .bool true]]) ∧ Below w.heap.size w w' := by
  rcases h with rfl | ⟨rfl, h⟩
  · go_enter Try.func37, Try.ntmps37
    go_wp2
    refine bodyPost_ret (v := .agg #[.string ⟨#[]⟩, .bool true]) (by simp [results, Try.results52, go_sem]) rfl ?_
    go_wp2
    refine bodyPost_ret (v := .tuple #[.int .u64 0, .agg #[.string ⟨#[]⟩, .bool true]]) (by simp [results, Try.results37, go_sem]) rfl ⟨rfl, ?_⟩
    repeat (first | exact Below.refl _ _ | apply below_alloc | apply below_drew | refine Below.setCell ?_ (by simp) _)
  · rcases h with h | h | h
    · have b1 : decide (a1 < 1) = true := decide_eq_true h
      go_enter Try.func37, Try.ntmps37
      go_wp2
      refine bodyPost_ret (v := .agg #[.string ⟨#[]⟩, .bool true]) (by simp [results, Try.results52, go_sem]) rfl ?_
      go_wp2
      refine bodyPost_ret (v := .tuple #[.int .u64 0, .agg #[.string ⟨#[]⟩, .bool true]]) (by simp [results, Try.results37, go_sem]) rfl ⟨rfl, ?_⟩
      repeat (first | exact Below.refl _ _ | apply below_alloc | apply below_drew | refine Below.setCell ?_ (by simp) _)
    · have b1 : decide (8 < a1) = true := decide_eq_true h
      have b2 : decide (a1 < 1) = false := decide_eq_false (by omega)
      go_enter Try.func37, Try.ntmps37
      go_wp2
      refine bodyPost_ret (v := .agg #[.string ⟨#[]⟩, .bool true]) (by simp [results, Try.results52, go_sem]) rfl ?_
      go_wp2
      refine bodyPost_ret (v := .tuple #[.int .u64 0, .agg #[.string ⟨#[]⟩, .bool true]]) (by simp [results, Try.results37, go_sem]) rfl ⟨rfl, ?_⟩
      repeat (first | exact Below.refl _ _ | apply below_alloc | apply below_drew | refine Below.setCell ?_ (by simp) _)
    · by_cases h1 : a1 < 1
      · have b1 : decide (a1 < 1) = true := decide_eq_true h1
        clear h
        go_enter Try.func37, Try.ntmps37
        go_wp2
        refine bodyPost_ret (v := .agg #[.string ⟨#[]⟩, .bool true]) (by simp [results, Try.results52, go_sem]) rfl ?_
        go_wp2
        refine bodyPost_ret (v := .tuple #[.int .u64 0, .agg #[.string ⟨#[]⟩, .bool true]]) (by simp [results, Try.results37, go_sem]) rfl ⟨rfl, ?_⟩
        repeat (first | exact Below.refl _ _ | apply below_alloc | apply below_drew | refine Below.setCell ?_ (by simp) _)
      · by_cases h8 : 8 < a1
        · have b1 : decide (8 < a1) = true := decide_eq_true h8
          clear h
          have b2 : decide (a1 < 1) = false := decide_eq_false (by omega)
          go_enter Try.func37, Try.ntmps37
          go_wp2
          refine bodyPost_ret (v := .agg #[.string ⟨#[]⟩, .bool true]) (by simp [results, Try.results52, go_sem]) rfl ?_
          go_wp2
          refine bodyPost_ret (v := .tuple #[.int .u64 0, .agg #[.string ⟨#[]⟩, .bool true]]) (by simp [results, Try.results37, go_sem]) rfl ⟨rfl, ?_⟩
          repeat (first | exact Below.refl _ _ | apply below_alloc | apply below_drew | refine Below.setCell ?_ (by simp) _)
        · have b1 : decide (8 < a1) = false := decide_eq_false (by omega)
          have b2 : decide (a1 < 1) = false := decide_eq_false (by omega)
          have b3 : decide ((s.size : Int) < a1) = true := decide_eq_true h
          go_enter Try.func37, Try.ntmps37
          go_wp2
          refine bodyPost_ret (v := .agg #[.string ⟨#[]⟩, .bool true]) (by simp [results, Try.results52, go_sem]) rfl ?_
          go_wp2
          refine bodyPost_ret (v := .tuple #[.int .u64 0, .agg #[.string ⟨#[]⟩, .bool true]]) (by simp [results, Try.results37, go_sem]) rfl ⟨rfl, ?_⟩
          repeat (first | exact Below.refl _ _ | apply below_alloc | apply below_drew | refine Below.setCell ?_ (by simp) _)
theorem pack_Reader_Number.calls (a0_0 : ByteArray) (a0_1 : Bool) (a1 : Int) (r1 : Int) (r2 : ByteArray) (r3 : Bool) (w : World) (h : pack_Reader_Number.f a0_0 a0_1 a1 = some (r1, r2, r3)) :
    Calls Try.prog 37 #[.agg #[.string a0_0, .bool a0_1], .int .i64 a1] w fun e w' => e = .returned (.tuple #[.int .u64 r1, .agg #[.string r2, .bool r3]]) ∧ Below w.heap.size w w' := by
  unfold pack_Reader_Number.f at h
  by_cases hm : a0_0.size ≤ 9223372036854775807
  · rw [if_pos hm] at h
    by_cases c0 : a0_1 = true
    · rw [if_pos c0] at h
      simp only [Option.some.injEq, Prod.mk.injEq] at h
      obtain ⟨rfl, rfl, rfl⟩ := h
      exact pack_Reader_Number.bad_ _ _ _ (.inl c0) w
    · rw [if_neg c0] at h
      have c0' : a0_1 = false := by simpa using c0
      by_cases c1 : a1 < 1
      · rw [if_pos c1] at h
        simp only [Option.some.injEq, Prod.mk.injEq] at h
        obtain ⟨rfl, rfl, rfl⟩ := h
        exact pack_Reader_Number.bad_ _ _ _ (.inr ⟨c0', .inl c1⟩) w
      · rw [if_neg c1] at h
        by_cases c2 : 8 < a1
        · rw [if_pos c2] at h
          simp only [Option.some.injEq, Prod.mk.injEq] at h
          obtain ⟨rfl, rfl, rfl⟩ := h
          exact pack_Reader_Number.bad_ _ _ _ (.inr ⟨c0', .inr (.inl c2)⟩) w
        · rw [if_neg c2] at h
          by_cases c3 : (a0_0.size : Int) < a1
          · rw [if_pos c3] at h
            simp only [Option.some.injEq, Prod.mk.injEq] at h
            obtain ⟨rfl, rfl, rfl⟩ := h
            exact pack_Reader_Number.bad_ _ _ _ (.inr ⟨c0', .inr (.inr c3)⟩) w
          · rw [if_neg c3] at h
            simp only [Option.some.injEq, Prod.mk.injEq] at h
            obtain ⟨rfl, rfl, rfl⟩ := h
            obtain ⟨n, rfl⟩ := Int.eq_ofNat_of_zero_le (show 0 ≤ a1 by omega)
            subst c0'
            rw [Int.toNat_natCast]
            exact pack_Reader_Number.some_ a0_0 n (by omega) (by omega) (by omega) hm w
  · rw [if_neg hm] at h
    exact absurd h (by simp)
/-! ### pack_Reader_Done: function 38 -/
def pack_Reader_Done.f (a0_0 : ByteArray) (a0_1 : Bool) : Option (Bool) := if a0_1 = true then (some false) else (some (a0_0.toList == ([] : List UInt8)))
set_option maxHeartbeats 8000000 in
set_option maxRecDepth 100000 in
theorem pack_Reader_Done.calls (a0_0 : ByteArray) (a0_1 : Bool) (r : Bool) (w : World) (h : pack_Reader_Done.f a0_0 a0_1 = some r) :
    Calls Try.prog 38 #[.agg #[.string a0_0, .bool a0_1]] w fun e w' => e = .returned (.bool r) ∧ Below w.heap.size w w' := by
  have hu81 := Try.underlying81
  have HB := Aside0.mk (Below.refl w.heap.size w)
  have H : (if a0_1 = true then (some false) else (some (a0_0.toList == ([] : List UInt8)))) = some r := h
  clear h
  by_cases c2 : a0_1 = true
  · subst c2
    have H1 : (some false) = some r := by rw [if_pos rfl] at H; exact H
    clear H
    have H := H1
    clear H1
    obtain rfl := Option.some.inj H
    go_enter Try.func38, Try.ntmps38
    go_wp2_with (first | ((with_reducible refine gate_dst (N := 1) rfl ?_); refine box_event ?hg (N := 1) ?hd (cs := #[.string a0_0, .bool true]) (t := 81) ?hr ?_; (case hd => rfl); (case hg => rfl); (case hr => first | (go_simp; done) | (go_simp; rfl)); intro gb147 hg w3 hbox hb; have BK147 := Aside0.mk (hbox); have GW147 := Kw_ HB hg; have GE147 := GW147; replace HB := Ks_ HB hb; clear hb hbox hg; obtain ⟨hcz4_0, hcz4_1, hfz4_0, hfz4_1⟩ := Ke2_ BK147.out))
    go_ret
    exact ⟨Kh_, Kz_ HB GE147⟩
  replace c2 := Bool.eq_false_iff.mpr c2
  subst c2
  have H1 : (some (a0_0.toList == ([] : List UInt8))) = some r := by rw [if_neg (show ¬ (false = true) by decide)] at H; exact H
  clear H
  have H := H1
  clear H1
  obtain rfl := Option.some.inj H
  go_enter Try.func38, Try.ntmps38
  go_wp2_with (first | ((with_reducible refine gate_dst (N := 1) rfl ?_); refine box_event ?hg (N := 1) ?hd (cs := #[.string a0_0, .bool false]) (t := 81) ?hr ?_; (case hd => rfl); (case hg => rfl); (case hr => first | (go_simp; done) | (go_simp; rfl)); intro gb147 hg w5 hbox hb; have BK147 := Aside0.mk (hbox); have GW147 := Kw_ HB hg; have GE147 := GW147; replace HB := Ks_ HB hb; clear hb hbox hg; obtain ⟨hcz6_0, hcz6_1, hfz6_0, hfz6_1⟩ := Ke2_ BK147.out))
  go_ret
  exact ⟨Kh_, Kz_ HB GE147⟩
/-! ### gate_Get: function 21 -/
-- FOREIGN: rows of pointers to a record's fields
def gate_Get.f (k : Nat) (a0 : ByteArray) : Option (ByteArray × Int × Int × Int × Int × ByteArray × ByteArray × ByteArray × Int) :=
  (pack_Reader_Text.f k a0 false 128).bind fun t0 => (pack_Reader_Number.f t0.2.1 t0.2.2 1).bind fun t1 => (pack_Reader_Number.f t1.2.1 t1.2.2 1).bind fun t2 => (pack_Reader_Number.f t2.2.1 t2.2.2 1).bind fun t3 => (pack_Reader_Number.f t3.2.1 t3.2.2 1).bind fun t4 =>
  (pack_Reader_Text.f k t4.2.1 t4.2.2 64).bind fun t5 => (pack_Reader_Text.f k t5.2.1 t5.2.2 64).bind fun t6 => (pack_Reader_Text.f k t6.2.1 t6.2.2 64).bind fun t7 => (pack_Reader_Done.f t7.2.1 t7.2.2).bind fun d =>
    if d = true then some (t0.1, wrap64 t1.1, wrap64 t2.1, wrap64 t3.1, wrap64 t4.1, t5.1, t6.1, t7.1, 0) else some ((⟨#[]⟩ : ByteArray), 0, 0, 0, 0, (⟨#[]⟩ : ByteArray), (⟨#[]⟩ : ByteArray), (⟨#[]⟩ : ByteArray), 2)
theorem gate_Get.mono : ∀ a0 k, LeO (gate_Get.f k a0) (gate_Get.f (k + 1) a0) := by
  intro a0 k
  unfold gate_Get.f
  repeat' first
      | exact pack_Reader_Text.mono _ _ _ _
      | exact LeO.refl _
      | exact LeO.none _
      | refine LeO.ite ?_ ?_
      | refine LeO.bind ?_ (fun _ => ?_)
theorem gate_Get.boxes2 (w : World) (xs ys : Array Value) (t1 t2 : TypeId) (W : World) (h : (w.alloc (.cells xs t1)).alloc (.cells ys t2) = W) :
    W.heap[w.heap.size]? = some (.cells xs t1 (0,0)) ∧ W.heap[w.heap.size+1]? = some (.cells ys t2 (0,0)) ∧ Below w.heap.size w W := by
  subst h
  have s1 : (w.alloc (.cells xs t1)).heap.size = w.heap.size + 1 := by simp [World.alloc, -World.alloc_eq]
  refine ⟨blk_alloc (blk_new _ _) _, ?_, below_alloc (below_alloc (Below.refl _ _) _) _⟩
  rw [← s1]; exact blk_new _ _
set_option maxHeartbeats 16000000 in
set_option maxRecDepth 100000 in
theorem gate_Get.calls (k : Nat) (a0 : ByteArray) (r1 : ByteArray) (r2 r3 r4 r5 : Int) (r6 r7 r8 : ByteArray) (r9 : Int) (w : World) (h : gate_Get.f k a0 = some (r1, r2, r3, r4, r5, r6, r7, r8, r9)) :
    Calls Try.prog 21 #[.string a0] w fun e w' => e = .returned (.tuple #[.agg #[.string r1, .int .i64 r2, .int .i64 r3, .int .i64 r4, .int .i64 r5, .string r6, .string r7, .string r8], .int .i64 r9]) ∧ Below w.heap.size w w' := by
  unfold gate_Get.f at h
  obtain ⟨⟨v0, s0, b0⟩, A0, h⟩ := Option.bind_eq_some_iff.1 h
  obtain ⟨⟨v1, s1, b1⟩, A1, h⟩ := Option.bind_eq_some_iff.1 h
  obtain ⟨⟨v2, s2, b2⟩, A2, h⟩ := Option.bind_eq_some_iff.1 h
  obtain ⟨⟨v3, s3, b3⟩, A3, h⟩ := Option.bind_eq_some_iff.1 h
  obtain ⟨⟨v4, s4, b4⟩, A4, h⟩ := Option.bind_eq_some_iff.1 h
  obtain ⟨⟨v5, s5, b5⟩, A5, h⟩ := Option.bind_eq_some_iff.1 h
  obtain ⟨⟨v6, s6, b6⟩, A6, h⟩ := Option.bind_eq_some_iff.1 h
  obtain ⟨⟨v7, s7, b7⟩, A7, h⟩ := Option.bind_eq_some_iff.1 h
  obtain ⟨d, A8, h⟩ := Option.bind_eq_some_iff.1 h
  replace A0 := Aside0.mk A0
  replace A1 := Aside0.mk A1
  replace A2 := Aside0.mk A2
  replace A3 := Aside0.mk A3
  replace A4 := Aside0.mk A4
  replace A5 := Aside0.mk A5
  replace A6 := Aside0.mk A6
  replace A7 := Aside0.mk A7
  replace A8 := Aside0.mk A8
  simp only at h
  have HH := Aside0.mk h
  clear h
  have hu := Try.underlying23
  have hu3 := Try.underlying81
  go_enter Try.func21, Try.ntmps21
  obtain ⟨hQ0, hR0, HB0⟩ := gate_Get.boxes2 w #[.string (⟨#[]⟩ : ByteArray), .int .i64 0, .int .i64 0, .int .i64 0, .int .i64 0, .string (⟨#[]⟩ : ByteArray), .string (⟨#[]⟩ : ByteArray), .string (⟨#[]⟩ : ByteArray)] #[.string (⟨#[]⟩ : ByteArray), .bool false] 23 81 _ rfl
  have HQ0 := Aside0.mk hQ0
  have HR0 := Aside0.mk hR0
  have HBB0 := Aside0.mk HB0
  clear hQ0 hR0 HB0
  go_wp2_with (go_at_call 36; refine (pack_Reader_Text.calls k a0 false 128 v0 s0 b0 _ A0.out).mono ?_; rintro e w1 ⟨rfl, hb⟩; have hQ := Aside0.mk (blk_below HQ0.out hb); have hR := Aside0.mk (blk_below HR0.out hb); have HB := Aside0.mk (below_step HBB0.out hb); clear hb; have fQ0 := blk_frozen hQ.out 0; have cQ0 := (blk_cell hQ.out 0).trans rfl; have fQ1 := blk_frozen hQ.out 1; have cQ1 := (blk_cell hQ.out 1).trans rfl; have fQ2 := blk_frozen hQ.out 2; have cQ2 := (blk_cell hQ.out 2).trans rfl; have fQ3 := blk_frozen hQ.out 3; have cQ3 := (blk_cell hQ.out 3).trans rfl; have fQ4 := blk_frozen hQ.out 4; have cQ4 := (blk_cell hQ.out 4).trans rfl; have fQ5 := blk_frozen hQ.out 5; have cQ5 := (blk_cell hQ.out 5).trans rfl; have fQ6 := blk_frozen hQ.out 6; have cQ6 := (blk_cell hQ.out 6).trans rfl; have fQ7 := blk_frozen hQ.out 7; have cQ7 := (blk_cell hQ.out 7).trans rfl; have fR0 := blk_frozen hR.out 0; have cR0 := (blk_cell hR.out 0).trans rfl; have fR1 := blk_frozen hR.out 1; have cR1 := (blk_cell hR.out 1).trans rfl)
  obtain ⟨B0, hB0⟩ : ∃ B0, B0 = w.heap.size := ⟨_, rfl⟩
  obtain ⟨B1, hB1⟩ : ∃ B1, B1 = w.heap.size + 1 := ⟨_, rfl⟩
  clear fQ0 cQ0 fQ1 cQ1 fQ2 cQ2 fQ3 cQ3 fQ4 cQ4 fQ5 cQ5 fQ6 cQ6 fQ7 cQ7 fR0 cR0 fR1 cR1
  clear HQ0 HR0 HBB0
  replace hQ := hQ.out
  replace hR := hR.out
  rw [← hB1, ← hB0]
  rw [← hB0] at hQ
  rw [← hB1] at hR
  replace hQ := Aside0.mk hQ
  replace hR := Aside0.mk hR
  have gQR : B0 ≠ B1 := by omega
  have GQ := Aside0.mk (show w.heap.size ≤ B0 by omega)
  have GR := Aside0.mk (show w.heap.size ≤ B1 by omega)
  clear hB0 hB1
  have hlQ := blk_lt hQ.out
  have hlR := blk_lt hR.out
  have hQ1 := Aside0.mk (blk_alloc (blk_far (blk_far (blk_put hQ.out 0 (.string v0) (cs' := #[.string v0, .int .i64 0, .int .i64 0, .int .i64 0, .int .i64 0, .string (⟨#[]⟩ : ByteArray), .string (⟨#[]⟩ : ByteArray), .string (⟨#[]⟩ : ByteArray)]) rfl) (p := ⟨B1, 0, none⟩) gQR (.string s0)) (p := ⟨B1, 1, none⟩) gQR (.bool b0)) (.cells #[.pointer (some ⟨B0, 1, none⟩), .pointer (some ⟨B0, 2, none⟩), .pointer (some ⟨B0, 3, none⟩), .pointer (some ⟨B0, 4, none⟩)] 84))
  have hR1 := Aside0.mk (blk_alloc (blk_put (blk_put (blk_far hR.out (p := ⟨B0, 0, none⟩) (Ne.symm gQR) (.string v0)) 0 (.string s0) (cs' := #[.string s0, .bool false]) rfl) 1 (.bool b0) (cs' := #[.string s0, .bool b0]) rfl) (.cells #[.pointer (some ⟨B0, 1, none⟩), .pointer (some ⟨B0, 2, none⟩), .pointer (some ⟨B0, 3, none⟩), .pointer (some ⟨B0, 4, none⟩)] 84))
  have HB1 := Aside0.mk (below_alloc (below_set (j := 1) (v := .bool b0) (below_set (j := 0) (v := .string s0) (below_set (j := 0) (v := .string v0) HB.out GQ.out) GR.out) GR.out) (.cells #[.pointer (some ⟨B0, 1, none⟩), .pointer (some ⟨B0, 2, none⟩), .pointer (some ⟨B0, 3, none⟩), .pointer (some ⟨B0, 4, none⟩)] 84))
  have hz_ : (((w1.setCell ⟨B0, 0, none⟩ (.string v0)).setCell ⟨B1, 0, none⟩ (.string s0)).setCell ⟨B1, 1, none⟩ (.bool b0)).heap.size = w1.heap.size := by simp
  have hP1 := blk_new (((w1.setCell ⟨B0, 0, none⟩ (.string v0)).setCell ⟨B1, 0, none⟩ (.string s0)).setCell ⟨B1, 1, none⟩ (.bool b0)) (.cells #[.pointer (some ⟨B0, 1, none⟩), .pointer (some ⟨B0, 2, none⟩), .pointer (some ⟨B0, 3, none⟩), .pointer (some ⟨B0, 4, none⟩)] 84)
  rw [hz_] at hP1
  clear hz_
  have gz_ := HB.out.size
  obtain ⟨B2, hB_⟩ : ∃ B, B = w1.heap.size := ⟨_, rfl⟩
  rw [← hB_] at hP1
  rw [← hB_]
  have hP1 := Aside0.mk hP1
  have gQP : B0 ≠ B2 := by omega
  have gRP : B1 ≠ B2 := by omega
  have GP := Aside0.mk (show w.heap.size ≤ B2 by omega)
  clear hB_ gz_ hlQ hlR
  clear HB hQ hR
  generalize hW_ : (((w1.setCell ⟨B0, 0, none⟩ (.string v0)).setCell ⟨B1, 0, none⟩ (.string s0)).setCell ⟨B1, 1, none⟩ (.bool b0)).alloc (.cells #[.pointer (some ⟨B0, 1, none⟩), .pointer (some ⟨B0, 2, none⟩), .pointer (some ⟨B0, 3, none⟩), .pointer (some ⟨B0, 4, none⟩)] 84) = W0 at *
  clear hW_
  have hQ := hQ1
  have hR := hR1
  have hP := hP1
  have HB := HB1
  clear HB1 hQ1 hR1 hP1
  refine wp_loop_rounds 5 ?_
  rw [rounds_succ]
  have fQ0 := blk_frozen hQ.out 0
  have cQ0 := (blk_cell hQ.out 0).trans rfl
  have fQ1 := blk_frozen hQ.out 1
  have cQ1 := (blk_cell hQ.out 1).trans rfl
  have fQ2 := blk_frozen hQ.out 2
  have cQ2 := (blk_cell hQ.out 2).trans rfl
  have fQ3 := blk_frozen hQ.out 3
  have cQ3 := (blk_cell hQ.out 3).trans rfl
  have fQ4 := blk_frozen hQ.out 4
  have cQ4 := (blk_cell hQ.out 4).trans rfl
  have fQ5 := blk_frozen hQ.out 5
  have cQ5 := (blk_cell hQ.out 5).trans rfl
  have fQ6 := blk_frozen hQ.out 6
  have cQ6 := (blk_cell hQ.out 6).trans rfl
  have fQ7 := blk_frozen hQ.out 7
  have cQ7 := (blk_cell hQ.out 7).trans rfl
  have fR0 := blk_frozen hR.out 0
  have cR0 := (blk_cell hR.out 0).trans rfl
  have fR1 := blk_frozen hR.out 1
  have cR1 := (blk_cell hR.out 1).trans rfl
  have fP0 := blk_frozen hP.out 0
  have cP0 := (blk_cell hP.out 0).trans rfl
  have fP1 := blk_frozen hP.out 1
  have cP1 := (blk_cell hP.out 1).trans rfl
  have fP2 := blk_frozen hP.out 2
  have cP2 := (blk_cell hP.out 2).trans rfl
  have fP3 := blk_frozen hP.out 3
  have cP3 := (blk_cell hP.out 3).trans rfl
  go_wp2_with (go_at_call 37; refine (pack_Reader_Number.calls s0 b0 1 v1 s1 b1 _ A1.out).mono ?_; rintro e w2 ⟨rfl, hb⟩; clear fQ0 cQ0 fQ1 cQ1 fQ2 cQ2 fQ3 cQ3 fQ4 cQ4 fQ5 cQ5 fQ6 cQ6 fQ7 cQ7 fR0 cR0 fR1 cR1 fP0 cP0 fP1 cP1 fP2 cP2 fP3 cP3; have hQ1 := Aside0.mk (blk_below hQ.out hb); have hR1 := Aside0.mk (blk_below hR.out hb); have hP1 := Aside0.mk (blk_below hP.out hb); have HB1 := Aside0.mk (below_step HB.out hb); clear hb; clear HB hQ hR hP; have hQ := hQ1; have hR := hR1; have hP := hP1; have HB := HB1; clear HB1 hQ1 hR1 hP1; have fQ0 := blk_frozen hQ.out 0; have cQ0 := (blk_cell hQ.out 0).trans rfl; have fQ1 := blk_frozen hQ.out 1; have cQ1 := (blk_cell hQ.out 1).trans rfl; have fQ2 := blk_frozen hQ.out 2; have cQ2 := (blk_cell hQ.out 2).trans rfl; have fQ3 := blk_frozen hQ.out 3; have cQ3 := (blk_cell hQ.out 3).trans rfl; have fQ4 := blk_frozen hQ.out 4; have cQ4 := (blk_cell hQ.out 4).trans rfl; have fQ5 := blk_frozen hQ.out 5; have cQ5 := (blk_cell hQ.out 5).trans rfl; have fQ6 := blk_frozen hQ.out 6; have cQ6 := (blk_cell hQ.out 6).trans rfl; have fQ7 := blk_frozen hQ.out 7; have cQ7 := (blk_cell hQ.out 7).trans rfl; have fR0 := blk_frozen hR.out 0; have cR0 := (blk_cell hR.out 0).trans rfl; have fR1 := blk_frozen hR.out 1; have cR1 := (blk_cell hR.out 1).trans rfl; have fP0 := blk_frozen hP.out 0; have cP0 := (blk_cell hP.out 0).trans rfl; have fP1 := blk_frozen hP.out 1; have cP1 := (blk_cell hP.out 1).trans rfl; have fP2 := blk_frozen hP.out 2; have cP2 := (blk_cell hP.out 2).trans rfl; have fP3 := blk_frozen hP.out 3; have cP3 := (blk_cell hP.out 3).trans rfl)
  clear fQ0 cQ0 fQ1 cQ1 fQ2 cQ2 fQ3 cQ3 fQ4 cQ4 fQ5 cQ5 fQ6 cQ6 fQ7 cQ7 fR0 cR0 fR1 cR1 fP0 cP0 fP1 cP1 fP2 cP2 fP3 cP3
  have hQ1 := Aside0.mk (blk_put (blk_far (blk_far hQ.out (p := ⟨B1, 0, none⟩) gQR (.string s1)) (p := ⟨B1, 1, none⟩) gQR (.bool b1)) 1 (.int .i64 (wrap64 v1)) (cs' := #[.string v0, .int .i64 (wrap64 v1), .int .i64 0, .int .i64 0, .int .i64 0, .string (⟨#[]⟩ : ByteArray), .string (⟨#[]⟩ : ByteArray), .string (⟨#[]⟩ : ByteArray)]) rfl)
  have hR1 := Aside0.mk (blk_far (blk_put (blk_put hR.out 0 (.string s1) (cs' := #[.string s1, .bool b0]) rfl) 1 (.bool b1) (cs' := #[.string s1, .bool b1]) rfl) (p := ⟨B0, 1, none⟩) (Ne.symm gQR) (.int .i64 (wrap64 v1)))
  have hP1 := Aside0.mk (blk_far (blk_far (blk_far hP.out (p := ⟨B1, 0, none⟩) (Ne.symm gRP) (.string s1)) (p := ⟨B1, 1, none⟩) (Ne.symm gRP) (.bool b1)) (p := ⟨B0, 1, none⟩) (Ne.symm gQP) (.int .i64 (wrap64 v1)))
  have HB1 := Aside0.mk (below_set (j := 1) (v := .int .i64 (wrap64 v1)) (below_set (j := 1) (v := .bool b1) (below_set (j := 0) (v := .string s1) HB.out GR.out) GR.out) GQ.out)
  clear HB hQ hR hP
  generalize hW_ : (((w2.setCell ⟨B1, 0, none⟩ (.string s1)).setCell ⟨B1, 1, none⟩ (.bool b1)).setCell ⟨B0, 1, none⟩ (.int .i64 (wrap64 v1))) = W1 at *
  clear hW_
  have hQ := hQ1
  have hR := hR1
  have hP := hP1
  have HB := HB1
  clear HB1 hQ1 hR1 hP1
  rw [rounds_succ]
  have fQ0 := blk_frozen hQ.out 0
  have cQ0 := (blk_cell hQ.out 0).trans rfl
  have fQ1 := blk_frozen hQ.out 1
  have cQ1 := (blk_cell hQ.out 1).trans rfl
  have fQ2 := blk_frozen hQ.out 2
  have cQ2 := (blk_cell hQ.out 2).trans rfl
  have fQ3 := blk_frozen hQ.out 3
  have cQ3 := (blk_cell hQ.out 3).trans rfl
  have fQ4 := blk_frozen hQ.out 4
  have cQ4 := (blk_cell hQ.out 4).trans rfl
  have fQ5 := blk_frozen hQ.out 5
  have cQ5 := (blk_cell hQ.out 5).trans rfl
  have fQ6 := blk_frozen hQ.out 6
  have cQ6 := (blk_cell hQ.out 6).trans rfl
  have fQ7 := blk_frozen hQ.out 7
  have cQ7 := (blk_cell hQ.out 7).trans rfl
  have fR0 := blk_frozen hR.out 0
  have cR0 := (blk_cell hR.out 0).trans rfl
  have fR1 := blk_frozen hR.out 1
  have cR1 := (blk_cell hR.out 1).trans rfl
  have fP0 := blk_frozen hP.out 0
  have cP0 := (blk_cell hP.out 0).trans rfl
  have fP1 := blk_frozen hP.out 1
  have cP1 := (blk_cell hP.out 1).trans rfl
  have fP2 := blk_frozen hP.out 2
  have cP2 := (blk_cell hP.out 2).trans rfl
  have fP3 := blk_frozen hP.out 3
  have cP3 := (blk_cell hP.out 3).trans rfl
  go_wp2_with (go_at_call 37; refine (pack_Reader_Number.calls s1 b1 1 v2 s2 b2 _ A2.out).mono ?_; rintro e w3 ⟨rfl, hb⟩; clear fQ0 cQ0 fQ1 cQ1 fQ2 cQ2 fQ3 cQ3 fQ4 cQ4 fQ5 cQ5 fQ6 cQ6 fQ7 cQ7 fR0 cR0 fR1 cR1 fP0 cP0 fP1 cP1 fP2 cP2 fP3 cP3; have hQ1 := Aside0.mk (blk_below hQ.out hb); have hR1 := Aside0.mk (blk_below hR.out hb); have hP1 := Aside0.mk (blk_below hP.out hb); have HB1 := Aside0.mk (below_step HB.out hb); clear hb; clear HB hQ hR hP; have hQ := hQ1; have hR := hR1; have hP := hP1; have HB := HB1; clear HB1 hQ1 hR1 hP1; have fQ0 := blk_frozen hQ.out 0; have cQ0 := (blk_cell hQ.out 0).trans rfl; have fQ1 := blk_frozen hQ.out 1; have cQ1 := (blk_cell hQ.out 1).trans rfl; have fQ2 := blk_frozen hQ.out 2; have cQ2 := (blk_cell hQ.out 2).trans rfl; have fQ3 := blk_frozen hQ.out 3; have cQ3 := (blk_cell hQ.out 3).trans rfl; have fQ4 := blk_frozen hQ.out 4; have cQ4 := (blk_cell hQ.out 4).trans rfl; have fQ5 := blk_frozen hQ.out 5; have cQ5 := (blk_cell hQ.out 5).trans rfl; have fQ6 := blk_frozen hQ.out 6; have cQ6 := (blk_cell hQ.out 6).trans rfl; have fQ7 := blk_frozen hQ.out 7; have cQ7 := (blk_cell hQ.out 7).trans rfl; have fR0 := blk_frozen hR.out 0; have cR0 := (blk_cell hR.out 0).trans rfl; have fR1 := blk_frozen hR.out 1; have cR1 := (blk_cell hR.out 1).trans rfl; have fP0 := blk_frozen hP.out 0; have cP0 := (blk_cell hP.out 0).trans rfl; have fP1 := blk_frozen hP.out 1; have cP1 := (blk_cell hP.out 1).trans rfl; have fP2 := blk_frozen hP.out 2; have cP2 := (blk_cell hP.out 2).trans rfl; have fP3 := blk_frozen hP.out 3; have cP3 := (blk_cell hP.out 3).trans rfl)
  clear fQ0 cQ0 fQ1 cQ1 fQ2 cQ2 fQ3 cQ3 fQ4 cQ4 fQ5 cQ5 fQ6 cQ6 fQ7 cQ7 fR0 cR0 fR1 cR1 fP0 cP0 fP1 cP1 fP2 cP2 fP3 cP3
  have hQ1 := Aside0.mk (blk_put (blk_far (blk_far hQ.out (p := ⟨B1, 0, none⟩) gQR (.string s2)) (p := ⟨B1, 1, none⟩) gQR (.bool b2)) 2 (.int .i64 (wrap64 v2)) (cs' := #[.string v0, .int .i64 (wrap64 v1), .int .i64 (wrap64 v2), .int .i64 0, .int .i64 0, .string (⟨#[]⟩ : ByteArray), .string (⟨#[]⟩ : ByteArray), .string (⟨#[]⟩ : ByteArray)]) rfl)
  have hR1 := Aside0.mk (blk_far (blk_put (blk_put hR.out 0 (.string s2) (cs' := #[.string s2, .bool b1]) rfl) 1 (.bool b2) (cs' := #[.string s2, .bool b2]) rfl) (p := ⟨B0, 2, none⟩) (Ne.symm gQR) (.int .i64 (wrap64 v2)))
  have hP1 := Aside0.mk (blk_far (blk_far (blk_far hP.out (p := ⟨B1, 0, none⟩) (Ne.symm gRP) (.string s2)) (p := ⟨B1, 1, none⟩) (Ne.symm gRP) (.bool b2)) (p := ⟨B0, 2, none⟩) (Ne.symm gQP) (.int .i64 (wrap64 v2)))
  have HB1 := Aside0.mk (below_set (j := 2) (v := .int .i64 (wrap64 v2)) (below_set (j := 1) (v := .bool b2) (below_set (j := 0) (v := .string s2) HB.out GR.out) GR.out) GQ.out)
  clear HB hQ hR hP
  generalize hW_ : (((w3.setCell ⟨B1, 0, none⟩ (.string s2)).setCell ⟨B1, 1, none⟩ (.bool b2)).setCell ⟨B0, 2, none⟩ (.int .i64 (wrap64 v2))) = W2 at *
  clear hW_
  have hQ := hQ1
  have hR := hR1
  have hP := hP1
  have HB := HB1
  clear HB1 hQ1 hR1 hP1
  rw [rounds_succ]
  have fQ0 := blk_frozen hQ.out 0
  have cQ0 := (blk_cell hQ.out 0).trans rfl
  have fQ1 := blk_frozen hQ.out 1
  have cQ1 := (blk_cell hQ.out 1).trans rfl
  have fQ2 := blk_frozen hQ.out 2
  have cQ2 := (blk_cell hQ.out 2).trans rfl
  have fQ3 := blk_frozen hQ.out 3
  have cQ3 := (blk_cell hQ.out 3).trans rfl
  have fQ4 := blk_frozen hQ.out 4
  have cQ4 := (blk_cell hQ.out 4).trans rfl
  have fQ5 := blk_frozen hQ.out 5
  have cQ5 := (blk_cell hQ.out 5).trans rfl
  have fQ6 := blk_frozen hQ.out 6
  have cQ6 := (blk_cell hQ.out 6).trans rfl
  have fQ7 := blk_frozen hQ.out 7
  have cQ7 := (blk_cell hQ.out 7).trans rfl
  have fR0 := blk_frozen hR.out 0
  have cR0 := (blk_cell hR.out 0).trans rfl
  have fR1 := blk_frozen hR.out 1
  have cR1 := (blk_cell hR.out 1).trans rfl
  have fP0 := blk_frozen hP.out 0
  have cP0 := (blk_cell hP.out 0).trans rfl
  have fP1 := blk_frozen hP.out 1
  have cP1 := (blk_cell hP.out 1).trans rfl
  have fP2 := blk_frozen hP.out 2
  have cP2 := (blk_cell hP.out 2).trans rfl
  have fP3 := blk_frozen hP.out 3
  have cP3 := (blk_cell hP.out 3).trans rfl
  go_wp2_with (go_at_call 37; refine (pack_Reader_Number.calls s2 b2 1 v3 s3 b3 _ A3.out).mono ?_; rintro e w4 ⟨rfl, hb⟩; clear fQ0 cQ0 fQ1 cQ1 fQ2 cQ2 fQ3 cQ3 fQ4 cQ4 fQ5 cQ5 fQ6 cQ6 fQ7 cQ7 fR0 cR0 fR1 cR1 fP0 cP0 fP1 cP1 fP2 cP2 fP3 cP3; have hQ1 := Aside0.mk (blk_below hQ.out hb); have hR1 := Aside0.mk (blk_below hR.out hb); have hP1 := Aside0.mk (blk_below hP.out hb); have HB1 := Aside0.mk (below_step HB.out hb); clear hb; clear HB hQ hR hP; have hQ := hQ1; have hR := hR1; have hP := hP1; have HB := HB1; clear HB1 hQ1 hR1 hP1; have fQ0 := blk_frozen hQ.out 0; have cQ0 := (blk_cell hQ.out 0).trans rfl; have fQ1 := blk_frozen hQ.out 1; have cQ1 := (blk_cell hQ.out 1).trans rfl; have fQ2 := blk_frozen hQ.out 2; have cQ2 := (blk_cell hQ.out 2).trans rfl; have fQ3 := blk_frozen hQ.out 3; have cQ3 := (blk_cell hQ.out 3).trans rfl; have fQ4 := blk_frozen hQ.out 4; have cQ4 := (blk_cell hQ.out 4).trans rfl; have fQ5 := blk_frozen hQ.out 5; have cQ5 := (blk_cell hQ.out 5).trans rfl; have fQ6 := blk_frozen hQ.out 6; have cQ6 := (blk_cell hQ.out 6).trans rfl; have fQ7 := blk_frozen hQ.out 7; have cQ7 := (blk_cell hQ.out 7).trans rfl; have fR0 := blk_frozen hR.out 0; have cR0 := (blk_cell hR.out 0).trans rfl; have fR1 := blk_frozen hR.out 1; have cR1 := (blk_cell hR.out 1).trans rfl; have fP0 := blk_frozen hP.out 0; have cP0 := (blk_cell hP.out 0).trans rfl; have fP1 := blk_frozen hP.out 1; have cP1 := (blk_cell hP.out 1).trans rfl; have fP2 := blk_frozen hP.out 2; have cP2 := (blk_cell hP.out 2).trans rfl; have fP3 := blk_frozen hP.out 3; have cP3 := (blk_cell hP.out 3).trans rfl)
  clear fQ0 cQ0 fQ1 cQ1 fQ2 cQ2 fQ3 cQ3 fQ4 cQ4 fQ5 cQ5 fQ6 cQ6 fQ7 cQ7 fR0 cR0 fR1 cR1 fP0 cP0 fP1 cP1 fP2 cP2 fP3 cP3
  have hQ1 := Aside0.mk (blk_put (blk_far (blk_far hQ.out (p := ⟨B1, 0, none⟩) gQR (.string s3)) (p := ⟨B1, 1, none⟩) gQR (.bool b3)) 3 (.int .i64 (wrap64 v3)) (cs' := #[.string v0, .int .i64 (wrap64 v1), .int .i64 (wrap64 v2), .int .i64 (wrap64 v3), .int .i64 0, .string (⟨#[]⟩ : ByteArray), .string (⟨#[]⟩ : ByteArray), .string (⟨#[]⟩ : ByteArray)]) rfl)
  have hR1 := Aside0.mk (blk_far (blk_put (blk_put hR.out 0 (.string s3) (cs' := #[.string s3, .bool b2]) rfl) 1 (.bool b3) (cs' := #[.string s3, .bool b3]) rfl) (p := ⟨B0, 3, none⟩) (Ne.symm gQR) (.int .i64 (wrap64 v3)))
  have hP1 := Aside0.mk (blk_far (blk_far (blk_far hP.out (p := ⟨B1, 0, none⟩) (Ne.symm gRP) (.string s3)) (p := ⟨B1, 1, none⟩) (Ne.symm gRP) (.bool b3)) (p := ⟨B0, 3, none⟩) (Ne.symm gQP) (.int .i64 (wrap64 v3)))
  have HB1 := Aside0.mk (below_set (j := 3) (v := .int .i64 (wrap64 v3)) (below_set (j := 1) (v := .bool b3) (below_set (j := 0) (v := .string s3) HB.out GR.out) GR.out) GQ.out)
  clear HB hQ hR hP
  generalize hW_ : (((w4.setCell ⟨B1, 0, none⟩ (.string s3)).setCell ⟨B1, 1, none⟩ (.bool b3)).setCell ⟨B0, 3, none⟩ (.int .i64 (wrap64 v3))) = W3 at *
  clear hW_
  have hQ := hQ1
  have hR := hR1
  have hP := hP1
  have HB := HB1
  clear HB1 hQ1 hR1 hP1
  rw [rounds_succ]
  have fQ0 := blk_frozen hQ.out 0
  have cQ0 := (blk_cell hQ.out 0).trans rfl
  have fQ1 := blk_frozen hQ.out 1
  have cQ1 := (blk_cell hQ.out 1).trans rfl
  have fQ2 := blk_frozen hQ.out 2
  have cQ2 := (blk_cell hQ.out 2).trans rfl
  have fQ3 := blk_frozen hQ.out 3
  have cQ3 := (blk_cell hQ.out 3).trans rfl
  have fQ4 := blk_frozen hQ.out 4
  have cQ4 := (blk_cell hQ.out 4).trans rfl
  have fQ5 := blk_frozen hQ.out 5
  have cQ5 := (blk_cell hQ.out 5).trans rfl
  have fQ6 := blk_frozen hQ.out 6
  have cQ6 := (blk_cell hQ.out 6).trans rfl
  have fQ7 := blk_frozen hQ.out 7
  have cQ7 := (blk_cell hQ.out 7).trans rfl
  have fR0 := blk_frozen hR.out 0
  have cR0 := (blk_cell hR.out 0).trans rfl
  have fR1 := blk_frozen hR.out 1
  have cR1 := (blk_cell hR.out 1).trans rfl
  have fP0 := blk_frozen hP.out 0
  have cP0 := (blk_cell hP.out 0).trans rfl
  have fP1 := blk_frozen hP.out 1
  have cP1 := (blk_cell hP.out 1).trans rfl
  have fP2 := blk_frozen hP.out 2
  have cP2 := (blk_cell hP.out 2).trans rfl
  have fP3 := blk_frozen hP.out 3
  have cP3 := (blk_cell hP.out 3).trans rfl
  go_wp2_with (go_at_call 37; refine (pack_Reader_Number.calls s3 b3 1 v4 s4 b4 _ A4.out).mono ?_; rintro e w5 ⟨rfl, hb⟩; clear fQ0 cQ0 fQ1 cQ1 fQ2 cQ2 fQ3 cQ3 fQ4 cQ4 fQ5 cQ5 fQ6 cQ6 fQ7 cQ7 fR0 cR0 fR1 cR1 fP0 cP0 fP1 cP1 fP2 cP2 fP3 cP3; have hQ1 := Aside0.mk (blk_below hQ.out hb); have hR1 := Aside0.mk (blk_below hR.out hb); have hP1 := Aside0.mk (blk_below hP.out hb); have HB1 := Aside0.mk (below_step HB.out hb); clear hb; clear HB hQ hR hP; have hQ := hQ1; have hR := hR1; have hP := hP1; have HB := HB1; clear HB1 hQ1 hR1 hP1; have fQ0 := blk_frozen hQ.out 0; have cQ0 := (blk_cell hQ.out 0).trans rfl; have fQ1 := blk_frozen hQ.out 1; have cQ1 := (blk_cell hQ.out 1).trans rfl; have fQ2 := blk_frozen hQ.out 2; have cQ2 := (blk_cell hQ.out 2).trans rfl; have fQ3 := blk_frozen hQ.out 3; have cQ3 := (blk_cell hQ.out 3).trans rfl; have fQ4 := blk_frozen hQ.out 4; have cQ4 := (blk_cell hQ.out 4).trans rfl; have fQ5 := blk_frozen hQ.out 5; have cQ5 := (blk_cell hQ.out 5).trans rfl; have fQ6 := blk_frozen hQ.out 6; have cQ6 := (blk_cell hQ.out 6).trans rfl; have fQ7 := blk_frozen hQ.out 7; have cQ7 := (blk_cell hQ.out 7).trans rfl; have fR0 := blk_frozen hR.out 0; have cR0 := (blk_cell hR.out 0).trans rfl; have fR1 := blk_frozen hR.out 1; have cR1 := (blk_cell hR.out 1).trans rfl; have fP0 := blk_frozen hP.out 0; have cP0 := (blk_cell hP.out 0).trans rfl; have fP1 := blk_frozen hP.out 1; have cP1 := (blk_cell hP.out 1).trans rfl; have fP2 := blk_frozen hP.out 2; have cP2 := (blk_cell hP.out 2).trans rfl; have fP3 := blk_frozen hP.out 3; have cP3 := (blk_cell hP.out 3).trans rfl)
  clear fQ0 cQ0 fQ1 cQ1 fQ2 cQ2 fQ3 cQ3 fQ4 cQ4 fQ5 cQ5 fQ6 cQ6 fQ7 cQ7 fR0 cR0 fR1 cR1 fP0 cP0 fP1 cP1 fP2 cP2 fP3 cP3
  have hQ1 := Aside0.mk (blk_put (blk_far (blk_far hQ.out (p := ⟨B1, 0, none⟩) gQR (.string s4)) (p := ⟨B1, 1, none⟩) gQR (.bool b4)) 4 (.int .i64 (wrap64 v4)) (cs' := #[.string v0, .int .i64 (wrap64 v1), .int .i64 (wrap64 v2), .int .i64 (wrap64 v3), .int .i64 (wrap64 v4), .string (⟨#[]⟩ : ByteArray), .string (⟨#[]⟩ : ByteArray), .string (⟨#[]⟩ : ByteArray)]) rfl)
  have hR1 := Aside0.mk (blk_far (blk_put (blk_put hR.out 0 (.string s4) (cs' := #[.string s4, .bool b3]) rfl) 1 (.bool b4) (cs' := #[.string s4, .bool b4]) rfl) (p := ⟨B0, 4, none⟩) (Ne.symm gQR) (.int .i64 (wrap64 v4)))
  have hP1 := Aside0.mk (blk_far (blk_far (blk_far hP.out (p := ⟨B1, 0, none⟩) (Ne.symm gRP) (.string s4)) (p := ⟨B1, 1, none⟩) (Ne.symm gRP) (.bool b4)) (p := ⟨B0, 4, none⟩) (Ne.symm gQP) (.int .i64 (wrap64 v4)))
  have HB1 := Aside0.mk (below_set (j := 4) (v := .int .i64 (wrap64 v4)) (below_set (j := 1) (v := .bool b4) (below_set (j := 0) (v := .string s4) HB.out GR.out) GR.out) GQ.out)
  clear HB hQ hR hP
  generalize hW_ : (((w5.setCell ⟨B1, 0, none⟩ (.string s4)).setCell ⟨B1, 1, none⟩ (.bool b4)).setCell ⟨B0, 4, none⟩ (.int .i64 (wrap64 v4))) = W4 at *
  clear hW_
  have hQ := hQ1
  have hR := hR1
  have hP := hP1
  have HB := HB1
  clear HB1 hQ1 hR1 hP1
  rw [rounds_succ]
  go_wp2
  have hlQ := blk_lt hQ.out
  have hlR := blk_lt hR.out
  have hlP := blk_lt hP.out
  have hQ1 := Aside0.mk (blk_alloc hQ.out (.cells #[.pointer (some ⟨B0, 5, none⟩), .pointer (some ⟨B0, 6, none⟩), .pointer (some ⟨B0, 7, none⟩)] 88))
  have hR1 := Aside0.mk (blk_alloc hR.out (.cells #[.pointer (some ⟨B0, 5, none⟩), .pointer (some ⟨B0, 6, none⟩), .pointer (some ⟨B0, 7, none⟩)] 88))
  have hP1 := Aside0.mk (blk_alloc hP.out (.cells #[.pointer (some ⟨B0, 5, none⟩), .pointer (some ⟨B0, 6, none⟩), .pointer (some ⟨B0, 7, none⟩)] 88))
  have HB1 := Aside0.mk (below_alloc HB.out (.cells #[.pointer (some ⟨B0, 5, none⟩), .pointer (some ⟨B0, 6, none⟩), .pointer (some ⟨B0, 7, none⟩)] 88))
  have hS1 := blk_new W4 (.cells #[.pointer (some ⟨B0, 5, none⟩), .pointer (some ⟨B0, 6, none⟩), .pointer (some ⟨B0, 7, none⟩)] 88)
  have gz_ := HB.out.size
  obtain ⟨B3, hB_⟩ : ∃ B, B = W4.heap.size := ⟨_, rfl⟩
  rw [← hB_] at hS1
  rw [← hB_]
  have hS1 := Aside0.mk hS1
  have gQS : B0 ≠ B3 := by omega
  have gRS : B1 ≠ B3 := by omega
  have gPS : B2 ≠ B3 := by omega
  have GS := Aside0.mk (show w.heap.size ≤ B3 by omega)
  clear hB_ gz_ hlQ hlR hlP
  clear HB hQ hR hP
  generalize hW_ : W4.alloc (.cells #[.pointer (some ⟨B0, 5, none⟩), .pointer (some ⟨B0, 6, none⟩), .pointer (some ⟨B0, 7, none⟩)] 88) = W5 at *
  clear hW_
  have hQ := hQ1
  have hR := hR1
  have hP := hP1
  have hS := hS1
  have HB := HB1
  clear HB1 hQ1 hR1 hP1 hS1
  refine wp_loop_rounds 4 ?_
  rw [rounds_succ]
  have fQ0 := blk_frozen hQ.out 0
  have cQ0 := (blk_cell hQ.out 0).trans rfl
  have fQ1 := blk_frozen hQ.out 1
  have cQ1 := (blk_cell hQ.out 1).trans rfl
  have fQ2 := blk_frozen hQ.out 2
  have cQ2 := (blk_cell hQ.out 2).trans rfl
  have fQ3 := blk_frozen hQ.out 3
  have cQ3 := (blk_cell hQ.out 3).trans rfl
  have fQ4 := blk_frozen hQ.out 4
  have cQ4 := (blk_cell hQ.out 4).trans rfl
  have fQ5 := blk_frozen hQ.out 5
  have cQ5 := (blk_cell hQ.out 5).trans rfl
  have fQ6 := blk_frozen hQ.out 6
  have cQ6 := (blk_cell hQ.out 6).trans rfl
  have fQ7 := blk_frozen hQ.out 7
  have cQ7 := (blk_cell hQ.out 7).trans rfl
  have fR0 := blk_frozen hR.out 0
  have cR0 := (blk_cell hR.out 0).trans rfl
  have fR1 := blk_frozen hR.out 1
  have cR1 := (blk_cell hR.out 1).trans rfl
  have fP0 := blk_frozen hP.out 0
  have cP0 := (blk_cell hP.out 0).trans rfl
  have fP1 := blk_frozen hP.out 1
  have cP1 := (blk_cell hP.out 1).trans rfl
  have fP2 := blk_frozen hP.out 2
  have cP2 := (blk_cell hP.out 2).trans rfl
  have fP3 := blk_frozen hP.out 3
  have cP3 := (blk_cell hP.out 3).trans rfl
  have fS0 := blk_frozen hS.out 0
  have cS0 := (blk_cell hS.out 0).trans rfl
  have fS1 := blk_frozen hS.out 1
  have cS1 := (blk_cell hS.out 1).trans rfl
  have fS2 := blk_frozen hS.out 2
  have cS2 := (blk_cell hS.out 2).trans rfl
  go_wp2_with (go_at_call 36; refine (pack_Reader_Text.calls k s4 b4 64 v5 s5 b5 _ A5.out).mono ?_; rintro e w6 ⟨rfl, hb⟩; clear fQ0 cQ0 fQ1 cQ1 fQ2 cQ2 fQ3 cQ3 fQ4 cQ4 fQ5 cQ5 fQ6 cQ6 fQ7 cQ7 fR0 cR0 fR1 cR1 fP0 cP0 fP1 cP1 fP2 cP2 fP3 cP3 fS0 cS0 fS1 cS1 fS2 cS2; have hQ1 := Aside0.mk (blk_below hQ.out hb); have hR1 := Aside0.mk (blk_below hR.out hb); have hP1 := Aside0.mk (blk_below hP.out hb); have hS1 := Aside0.mk (blk_below hS.out hb); have HB1 := Aside0.mk (below_step HB.out hb); clear hb; clear HB hQ hR hP hS; have hQ := hQ1; have hR := hR1; have hP := hP1; have hS := hS1; have HB := HB1; clear HB1 hQ1 hR1 hP1 hS1; have fQ0 := blk_frozen hQ.out 0; have cQ0 := (blk_cell hQ.out 0).trans rfl; have fQ1 := blk_frozen hQ.out 1; have cQ1 := (blk_cell hQ.out 1).trans rfl; have fQ2 := blk_frozen hQ.out 2; have cQ2 := (blk_cell hQ.out 2).trans rfl; have fQ3 := blk_frozen hQ.out 3; have cQ3 := (blk_cell hQ.out 3).trans rfl; have fQ4 := blk_frozen hQ.out 4; have cQ4 := (blk_cell hQ.out 4).trans rfl; have fQ5 := blk_frozen hQ.out 5; have cQ5 := (blk_cell hQ.out 5).trans rfl; have fQ6 := blk_frozen hQ.out 6; have cQ6 := (blk_cell hQ.out 6).trans rfl; have fQ7 := blk_frozen hQ.out 7; have cQ7 := (blk_cell hQ.out 7).trans rfl; have fR0 := blk_frozen hR.out 0; have cR0 := (blk_cell hR.out 0).trans rfl; have fR1 := blk_frozen hR.out 1; have cR1 := (blk_cell hR.out 1).trans rfl; have fP0 := blk_frozen hP.out 0; have cP0 := (blk_cell hP.out 0).trans rfl; have fP1 := blk_frozen hP.out 1; have cP1 := (blk_cell hP.out 1).trans rfl; have fP2 := blk_frozen hP.out 2; have cP2 := (blk_cell hP.out 2).trans rfl; have fP3 := blk_frozen hP.out 3; have cP3 := (blk_cell hP.out 3).trans rfl; have fS0 := blk_frozen hS.out 0; have cS0 := (blk_cell hS.out 0).trans rfl; have fS1 := blk_frozen hS.out 1; have cS1 := (blk_cell hS.out 1).trans rfl; have fS2 := blk_frozen hS.out 2; have cS2 := (blk_cell hS.out 2).trans rfl)
  clear fQ0 cQ0 fQ1 cQ1 fQ2 cQ2 fQ3 cQ3 fQ4 cQ4 fQ5 cQ5 fQ6 cQ6 fQ7 cQ7 fR0 cR0 fR1 cR1 fP0 cP0 fP1 cP1 fP2 cP2 fP3 cP3 fS0 cS0 fS1 cS1 fS2 cS2
  have hQ1 := Aside0.mk (blk_far (blk_far (blk_put hQ.out 5 (.string v5) (cs' := #[.string v0, .int .i64 (wrap64 v1), .int .i64 (wrap64 v2), .int .i64 (wrap64 v3), .int .i64 (wrap64 v4), .string v5, .string (⟨#[]⟩ : ByteArray), .string (⟨#[]⟩ : ByteArray)]) rfl) (p := ⟨B1, 0, none⟩) gQR (.string s5)) (p := ⟨B1, 1, none⟩) gQR (.bool b5))
  have hR1 := Aside0.mk (blk_put (blk_put (blk_far hR.out (p := ⟨B0, 5, none⟩) (Ne.symm gQR) (.string v5)) 0 (.string s5) (cs' := #[.string s5, .bool b4]) rfl) 1 (.bool b5) (cs' := #[.string s5, .bool b5]) rfl)
  have hP1 := Aside0.mk (blk_far (blk_far (blk_far hP.out (p := ⟨B0, 5, none⟩) (Ne.symm gQP) (.string v5)) (p := ⟨B1, 0, none⟩) (Ne.symm gRP) (.string s5)) (p := ⟨B1, 1, none⟩) (Ne.symm gRP) (.bool b5))
  have hS1 := Aside0.mk (blk_far (blk_far (blk_far hS.out (p := ⟨B0, 5, none⟩) (Ne.symm gQS) (.string v5)) (p := ⟨B1, 0, none⟩) (Ne.symm gRS) (.string s5)) (p := ⟨B1, 1, none⟩) (Ne.symm gRS) (.bool b5))
  have HB1 := Aside0.mk (below_set (j := 1) (v := .bool b5) (below_set (j := 0) (v := .string s5) (below_set (j := 5) (v := .string v5) HB.out GQ.out) GR.out) GR.out)
  clear HB hQ hR hP hS
  generalize hW_ : (((w6.setCell ⟨B0, 5, none⟩ (.string v5)).setCell ⟨B1, 0, none⟩ (.string s5)).setCell ⟨B1, 1, none⟩ (.bool b5)) = W6 at *
  clear hW_
  have hQ := hQ1
  have hR := hR1
  have hP := hP1
  have hS := hS1
  have HB := HB1
  clear HB1 hQ1 hR1 hP1 hS1
  rw [rounds_succ]
  have fQ0 := blk_frozen hQ.out 0
  have cQ0 := (blk_cell hQ.out 0).trans rfl
  have fQ1 := blk_frozen hQ.out 1
  have cQ1 := (blk_cell hQ.out 1).trans rfl
  have fQ2 := blk_frozen hQ.out 2
  have cQ2 := (blk_cell hQ.out 2).trans rfl
  have fQ3 := blk_frozen hQ.out 3
  have cQ3 := (blk_cell hQ.out 3).trans rfl
  have fQ4 := blk_frozen hQ.out 4
  have cQ4 := (blk_cell hQ.out 4).trans rfl
  have fQ5 := blk_frozen hQ.out 5
  have cQ5 := (blk_cell hQ.out 5).trans rfl
  have fQ6 := blk_frozen hQ.out 6
  have cQ6 := (blk_cell hQ.out 6).trans rfl
  have fQ7 := blk_frozen hQ.out 7
  have cQ7 := (blk_cell hQ.out 7).trans rfl
  have fR0 := blk_frozen hR.out 0
  have cR0 := (blk_cell hR.out 0).trans rfl
  have fR1 := blk_frozen hR.out 1
  have cR1 := (blk_cell hR.out 1).trans rfl
  have fP0 := blk_frozen hP.out 0
  have cP0 := (blk_cell hP.out 0).trans rfl
  have fP1 := blk_frozen hP.out 1
  have cP1 := (blk_cell hP.out 1).trans rfl
  have fP2 := blk_frozen hP.out 2
  have cP2 := (blk_cell hP.out 2).trans rfl
  have fP3 := blk_frozen hP.out 3
  have cP3 := (blk_cell hP.out 3).trans rfl
  have fS0 := blk_frozen hS.out 0
  have cS0 := (blk_cell hS.out 0).trans rfl
  have fS1 := blk_frozen hS.out 1
  have cS1 := (blk_cell hS.out 1).trans rfl
  have fS2 := blk_frozen hS.out 2
  have cS2 := (blk_cell hS.out 2).trans rfl
  go_wp2_with (go_at_call 36; refine (pack_Reader_Text.calls k s5 b5 64 v6 s6 b6 _ A6.out).mono ?_; rintro e w7 ⟨rfl, hb⟩; clear fQ0 cQ0 fQ1 cQ1 fQ2 cQ2 fQ3 cQ3 fQ4 cQ4 fQ5 cQ5 fQ6 cQ6 fQ7 cQ7 fR0 cR0 fR1 cR1 fP0 cP0 fP1 cP1 fP2 cP2 fP3 cP3 fS0 cS0 fS1 cS1 fS2 cS2; have hQ1 := Aside0.mk (blk_below hQ.out hb); have hR1 := Aside0.mk (blk_below hR.out hb); have hP1 := Aside0.mk (blk_below hP.out hb); have hS1 := Aside0.mk (blk_below hS.out hb); have HB1 := Aside0.mk (below_step HB.out hb); clear hb; clear HB hQ hR hP hS; have hQ := hQ1; have hR := hR1; have hP := hP1; have hS := hS1; have HB := HB1; clear HB1 hQ1 hR1 hP1 hS1; have fQ0 := blk_frozen hQ.out 0; have cQ0 := (blk_cell hQ.out 0).trans rfl; have fQ1 := blk_frozen hQ.out 1; have cQ1 := (blk_cell hQ.out 1).trans rfl; have fQ2 := blk_frozen hQ.out 2; have cQ2 := (blk_cell hQ.out 2).trans rfl; have fQ3 := blk_frozen hQ.out 3; have cQ3 := (blk_cell hQ.out 3).trans rfl; have fQ4 := blk_frozen hQ.out 4; have cQ4 := (blk_cell hQ.out 4).trans rfl; have fQ5 := blk_frozen hQ.out 5; have cQ5 := (blk_cell hQ.out 5).trans rfl; have fQ6 := blk_frozen hQ.out 6; have cQ6 := (blk_cell hQ.out 6).trans rfl; have fQ7 := blk_frozen hQ.out 7; have cQ7 := (blk_cell hQ.out 7).trans rfl; have fR0 := blk_frozen hR.out 0; have cR0 := (blk_cell hR.out 0).trans rfl; have fR1 := blk_frozen hR.out 1; have cR1 := (blk_cell hR.out 1).trans rfl; have fP0 := blk_frozen hP.out 0; have cP0 := (blk_cell hP.out 0).trans rfl; have fP1 := blk_frozen hP.out 1; have cP1 := (blk_cell hP.out 1).trans rfl; have fP2 := blk_frozen hP.out 2; have cP2 := (blk_cell hP.out 2).trans rfl; have fP3 := blk_frozen hP.out 3; have cP3 := (blk_cell hP.out 3).trans rfl; have fS0 := blk_frozen hS.out 0; have cS0 := (blk_cell hS.out 0).trans rfl; have fS1 := blk_frozen hS.out 1; have cS1 := (blk_cell hS.out 1).trans rfl; have fS2 := blk_frozen hS.out 2; have cS2 := (blk_cell hS.out 2).trans rfl)
  clear fQ0 cQ0 fQ1 cQ1 fQ2 cQ2 fQ3 cQ3 fQ4 cQ4 fQ5 cQ5 fQ6 cQ6 fQ7 cQ7 fR0 cR0 fR1 cR1 fP0 cP0 fP1 cP1 fP2 cP2 fP3 cP3 fS0 cS0 fS1 cS1 fS2 cS2
  have hQ1 := Aside0.mk (blk_far (blk_far (blk_put hQ.out 6 (.string v6) (cs' := #[.string v0, .int .i64 (wrap64 v1), .int .i64 (wrap64 v2), .int .i64 (wrap64 v3), .int .i64 (wrap64 v4), .string v5, .string v6, .string (⟨#[]⟩ : ByteArray)]) rfl) (p := ⟨B1, 0, none⟩) gQR (.string s6)) (p := ⟨B1, 1, none⟩) gQR (.bool b6))
  have hR1 := Aside0.mk (blk_put (blk_put (blk_far hR.out (p := ⟨B0, 6, none⟩) (Ne.symm gQR) (.string v6)) 0 (.string s6) (cs' := #[.string s6, .bool b5]) rfl) 1 (.bool b6) (cs' := #[.string s6, .bool b6]) rfl)
  have hP1 := Aside0.mk (blk_far (blk_far (blk_far hP.out (p := ⟨B0, 6, none⟩) (Ne.symm gQP) (.string v6)) (p := ⟨B1, 0, none⟩) (Ne.symm gRP) (.string s6)) (p := ⟨B1, 1, none⟩) (Ne.symm gRP) (.bool b6))
  have hS1 := Aside0.mk (blk_far (blk_far (blk_far hS.out (p := ⟨B0, 6, none⟩) (Ne.symm gQS) (.string v6)) (p := ⟨B1, 0, none⟩) (Ne.symm gRS) (.string s6)) (p := ⟨B1, 1, none⟩) (Ne.symm gRS) (.bool b6))
  have HB1 := Aside0.mk (below_set (j := 1) (v := .bool b6) (below_set (j := 0) (v := .string s6) (below_set (j := 6) (v := .string v6) HB.out GQ.out) GR.out) GR.out)
  clear HB hQ hR hP hS
  generalize hW_ : (((w7.setCell ⟨B0, 6, none⟩ (.string v6)).setCell ⟨B1, 0, none⟩ (.string s6)).setCell ⟨B1, 1, none⟩ (.bool b6)) = W7 at *
  clear hW_
  have hQ := hQ1
  have hR := hR1
  have hP := hP1
  have hS := hS1
  have HB := HB1
  clear HB1 hQ1 hR1 hP1 hS1
  rw [rounds_succ]
  have fQ0 := blk_frozen hQ.out 0
  have cQ0 := (blk_cell hQ.out 0).trans rfl
  have fQ1 := blk_frozen hQ.out 1
  have cQ1 := (blk_cell hQ.out 1).trans rfl
  have fQ2 := blk_frozen hQ.out 2
  have cQ2 := (blk_cell hQ.out 2).trans rfl
  have fQ3 := blk_frozen hQ.out 3
  have cQ3 := (blk_cell hQ.out 3).trans rfl
  have fQ4 := blk_frozen hQ.out 4
  have cQ4 := (blk_cell hQ.out 4).trans rfl
  have fQ5 := blk_frozen hQ.out 5
  have cQ5 := (blk_cell hQ.out 5).trans rfl
  have fQ6 := blk_frozen hQ.out 6
  have cQ6 := (blk_cell hQ.out 6).trans rfl
  have fQ7 := blk_frozen hQ.out 7
  have cQ7 := (blk_cell hQ.out 7).trans rfl
  have fR0 := blk_frozen hR.out 0
  have cR0 := (blk_cell hR.out 0).trans rfl
  have fR1 := blk_frozen hR.out 1
  have cR1 := (blk_cell hR.out 1).trans rfl
  have fP0 := blk_frozen hP.out 0
  have cP0 := (blk_cell hP.out 0).trans rfl
  have fP1 := blk_frozen hP.out 1
  have cP1 := (blk_cell hP.out 1).trans rfl
  have fP2 := blk_frozen hP.out 2
  have cP2 := (blk_cell hP.out 2).trans rfl
  have fP3 := blk_frozen hP.out 3
  have cP3 := (blk_cell hP.out 3).trans rfl
  have fS0 := blk_frozen hS.out 0
  have cS0 := (blk_cell hS.out 0).trans rfl
  have fS1 := blk_frozen hS.out 1
  have cS1 := (blk_cell hS.out 1).trans rfl
  have fS2 := blk_frozen hS.out 2
  have cS2 := (blk_cell hS.out 2).trans rfl
  go_wp2_with (go_at_call 36; refine (pack_Reader_Text.calls k s6 b6 64 v7 s7 b7 _ A7.out).mono ?_; rintro e w8 ⟨rfl, hb⟩; clear fQ0 cQ0 fQ1 cQ1 fQ2 cQ2 fQ3 cQ3 fQ4 cQ4 fQ5 cQ5 fQ6 cQ6 fQ7 cQ7 fR0 cR0 fR1 cR1 fP0 cP0 fP1 cP1 fP2 cP2 fP3 cP3 fS0 cS0 fS1 cS1 fS2 cS2; have hQ1 := Aside0.mk (blk_below hQ.out hb); have hR1 := Aside0.mk (blk_below hR.out hb); have hP1 := Aside0.mk (blk_below hP.out hb); have hS1 := Aside0.mk (blk_below hS.out hb); have HB1 := Aside0.mk (below_step HB.out hb); clear hb; clear HB hQ hR hP hS; have hQ := hQ1; have hR := hR1; have hP := hP1; have hS := hS1; have HB := HB1; clear HB1 hQ1 hR1 hP1 hS1; have fQ0 := blk_frozen hQ.out 0; have cQ0 := (blk_cell hQ.out 0).trans rfl; have fQ1 := blk_frozen hQ.out 1; have cQ1 := (blk_cell hQ.out 1).trans rfl; have fQ2 := blk_frozen hQ.out 2; have cQ2 := (blk_cell hQ.out 2).trans rfl; have fQ3 := blk_frozen hQ.out 3; have cQ3 := (blk_cell hQ.out 3).trans rfl; have fQ4 := blk_frozen hQ.out 4; have cQ4 := (blk_cell hQ.out 4).trans rfl; have fQ5 := blk_frozen hQ.out 5; have cQ5 := (blk_cell hQ.out 5).trans rfl; have fQ6 := blk_frozen hQ.out 6; have cQ6 := (blk_cell hQ.out 6).trans rfl; have fQ7 := blk_frozen hQ.out 7; have cQ7 := (blk_cell hQ.out 7).trans rfl; have fR0 := blk_frozen hR.out 0; have cR0 := (blk_cell hR.out 0).trans rfl; have fR1 := blk_frozen hR.out 1; have cR1 := (blk_cell hR.out 1).trans rfl; have fP0 := blk_frozen hP.out 0; have cP0 := (blk_cell hP.out 0).trans rfl; have fP1 := blk_frozen hP.out 1; have cP1 := (blk_cell hP.out 1).trans rfl; have fP2 := blk_frozen hP.out 2; have cP2 := (blk_cell hP.out 2).trans rfl; have fP3 := blk_frozen hP.out 3; have cP3 := (blk_cell hP.out 3).trans rfl; have fS0 := blk_frozen hS.out 0; have cS0 := (blk_cell hS.out 0).trans rfl; have fS1 := blk_frozen hS.out 1; have cS1 := (blk_cell hS.out 1).trans rfl; have fS2 := blk_frozen hS.out 2; have cS2 := (blk_cell hS.out 2).trans rfl)
  clear fQ0 cQ0 fQ1 cQ1 fQ2 cQ2 fQ3 cQ3 fQ4 cQ4 fQ5 cQ5 fQ6 cQ6 fQ7 cQ7 fR0 cR0 fR1 cR1 fP0 cP0 fP1 cP1 fP2 cP2 fP3 cP3 fS0 cS0 fS1 cS1 fS2 cS2
  have hQ1 := Aside0.mk (blk_far (blk_far (blk_put hQ.out 7 (.string v7) (cs' := #[.string v0, .int .i64 (wrap64 v1), .int .i64 (wrap64 v2), .int .i64 (wrap64 v3), .int .i64 (wrap64 v4), .string v5, .string v6, .string v7]) rfl) (p := ⟨B1, 0, none⟩) gQR (.string s7)) (p := ⟨B1, 1, none⟩) gQR (.bool b7))
  have hR1 := Aside0.mk (blk_put (blk_put (blk_far hR.out (p := ⟨B0, 7, none⟩) (Ne.symm gQR) (.string v7)) 0 (.string s7) (cs' := #[.string s7, .bool b6]) rfl) 1 (.bool b7) (cs' := #[.string s7, .bool b7]) rfl)
  have hP1 := Aside0.mk (blk_far (blk_far (blk_far hP.out (p := ⟨B0, 7, none⟩) (Ne.symm gQP) (.string v7)) (p := ⟨B1, 0, none⟩) (Ne.symm gRP) (.string s7)) (p := ⟨B1, 1, none⟩) (Ne.symm gRP) (.bool b7))
  have hS1 := Aside0.mk (blk_far (blk_far (blk_far hS.out (p := ⟨B0, 7, none⟩) (Ne.symm gQS) (.string v7)) (p := ⟨B1, 0, none⟩) (Ne.symm gRS) (.string s7)) (p := ⟨B1, 1, none⟩) (Ne.symm gRS) (.bool b7))
  have HB1 := Aside0.mk (below_set (j := 1) (v := .bool b7) (below_set (j := 0) (v := .string s7) (below_set (j := 7) (v := .string v7) HB.out GQ.out) GR.out) GR.out)
  clear HB hQ hR hP hS
  generalize hW_ : (((w8.setCell ⟨B0, 7, none⟩ (.string v7)).setCell ⟨B1, 0, none⟩ (.string s7)).setCell ⟨B1, 1, none⟩ (.bool b7)) = W8 at *
  clear hW_
  have hQ := hQ1
  have hR := hR1
  have hP := hP1
  have hS := hS1
  have HB := HB1
  clear HB1 hQ1 hR1 hP1 hS1
  rw [rounds_succ]
  have fQ0 := blk_frozen hQ.out 0
  have cQ0 := (blk_cell hQ.out 0).trans rfl
  have fQ1 := blk_frozen hQ.out 1
  have cQ1 := (blk_cell hQ.out 1).trans rfl
  have fQ2 := blk_frozen hQ.out 2
  have cQ2 := (blk_cell hQ.out 2).trans rfl
  have fQ3 := blk_frozen hQ.out 3
  have cQ3 := (blk_cell hQ.out 3).trans rfl
  have fQ4 := blk_frozen hQ.out 4
  have cQ4 := (blk_cell hQ.out 4).trans rfl
  have fQ5 := blk_frozen hQ.out 5
  have cQ5 := (blk_cell hQ.out 5).trans rfl
  have fQ6 := blk_frozen hQ.out 6
  have cQ6 := (blk_cell hQ.out 6).trans rfl
  have fQ7 := blk_frozen hQ.out 7
  have cQ7 := (blk_cell hQ.out 7).trans rfl
  have fR0 := blk_frozen hR.out 0
  have cR0 := (blk_cell hR.out 0).trans rfl
  have fR1 := blk_frozen hR.out 1
  have cR1 := (blk_cell hR.out 1).trans rfl
  have fP0 := blk_frozen hP.out 0
  have cP0 := (blk_cell hP.out 0).trans rfl
  have fP1 := blk_frozen hP.out 1
  have cP1 := (blk_cell hP.out 1).trans rfl
  have fP2 := blk_frozen hP.out 2
  have cP2 := (blk_cell hP.out 2).trans rfl
  have fP3 := blk_frozen hP.out 3
  have cP3 := (blk_cell hP.out 3).trans rfl
  have fS0 := blk_frozen hS.out 0
  have cS0 := (blk_cell hS.out 0).trans rfl
  have fS1 := blk_frozen hS.out 1
  have cS1 := (blk_cell hS.out 1).trans rfl
  have fS2 := blk_frozen hS.out 2
  have cS2 := (blk_cell hS.out 2).trans rfl
  cases d with
  | true =>
    have h := HH.out
    rw [if_pos rfl] at h
    simp only [Option.some.injEq, Prod.mk.injEq] at h
    obtain ⟨rfl, rfl, rfl, rfl, rfl, rfl, rfl, rfl, rfl⟩ := h
    clear HH
    go_wp2_with (go_at_call 38; refine (pack_Reader_Done.calls s7 b7 true _ A8.out).mono ?_; rintro e w9 ⟨rfl, hb⟩; clear fQ0 cQ0 fQ1 cQ1 fQ2 cQ2 fQ3 cQ3 fQ4 cQ4 fQ5 cQ5 fQ6 cQ6 fQ7 cQ7 fR0 cR0 fR1 cR1 fP0 cP0 fP1 cP1 fP2 cP2 fP3 cP3 fS0 cS0 fS1 cS1 fS2 cS2; have hQ1 := Aside0.mk (blk_below hQ.out hb); have hR1 := Aside0.mk (blk_below hR.out hb); have hP1 := Aside0.mk (blk_below hP.out hb); have hS1 := Aside0.mk (blk_below hS.out hb); have HB1 := Aside0.mk (below_step HB.out hb); clear hb; clear HB hQ hR hP hS; have hQ := hQ1; have hR := hR1; have hP := hP1; have hS := hS1; have HB := HB1; clear HB1 hQ1 hR1 hP1 hS1; have fQ0 := blk_frozen hQ.out 0; have cQ0 := (blk_cell hQ.out 0).trans rfl; have fQ1 := blk_frozen hQ.out 1; have cQ1 := (blk_cell hQ.out 1).trans rfl; have fQ2 := blk_frozen hQ.out 2; have cQ2 := (blk_cell hQ.out 2).trans rfl; have fQ3 := blk_frozen hQ.out 3; have cQ3 := (blk_cell hQ.out 3).trans rfl; have fQ4 := blk_frozen hQ.out 4; have cQ4 := (blk_cell hQ.out 4).trans rfl; have fQ5 := blk_frozen hQ.out 5; have cQ5 := (blk_cell hQ.out 5).trans rfl; have fQ6 := blk_frozen hQ.out 6; have cQ6 := (blk_cell hQ.out 6).trans rfl; have fQ7 := blk_frozen hQ.out 7; have cQ7 := (blk_cell hQ.out 7).trans rfl; have fR0 := blk_frozen hR.out 0; have cR0 := (blk_cell hR.out 0).trans rfl; have fR1 := blk_frozen hR.out 1; have cR1 := (blk_cell hR.out 1).trans rfl; have fP0 := blk_frozen hP.out 0; have cP0 := (blk_cell hP.out 0).trans rfl; have fP1 := blk_frozen hP.out 1; have cP1 := (blk_cell hP.out 1).trans rfl; have fP2 := blk_frozen hP.out 2; have cP2 := (blk_cell hP.out 2).trans rfl; have fP3 := blk_frozen hP.out 3; have cP3 := (blk_cell hP.out 3).trans rfl; have fS0 := blk_frozen hS.out 0; have cS0 := (blk_cell hS.out 0).trans rfl; have fS1 := blk_frozen hS.out 1; have cS1 := (blk_cell hS.out 1).trans rfl; have fS2 := blk_frozen hS.out 2; have cS2 := (blk_cell hS.out 2).trans rfl)
    clear fQ0 cQ0 fQ1 cQ1 fQ2 cQ2 fQ3 cQ3 fQ4 cQ4 fQ5 cQ5 fQ6 cQ6 fQ7 cQ7 fR0 cR0 fR1 cR1 fP0 cP0 fP1 cP1 fP2 cP2 fP3 cP3 fS0 cS0 fS1 cS1 fS2 cS2
    have hQ1 := Aside0.mk (blk_put (blk_put (blk_put (blk_put (blk_put (blk_put (blk_put (blk_put hQ.out 0 (.string v0) (cs' := #[.string v0, .int .i64 (wrap64 v1), .int .i64 (wrap64 v2), .int .i64 (wrap64 v3), .int .i64 (wrap64 v4), .string v5, .string v6, .string v7]) rfl) 1 (.int .i64 (wrap64 v1)) (cs' := #[.string v0, .int .i64 (wrap64 v1), .int .i64 (wrap64 v2), .int .i64 (wrap64 v3), .int .i64 (wrap64 v4), .string v5, .string v6, .string v7]) rfl) 2 (.int .i64 (wrap64 v2)) (cs' := #[.string v0, .int .i64 (wrap64 v1), .int .i64 (wrap64 v2), .int .i64 (wrap64 v3), .int .i64 (wrap64 v4), .string v5, .string v6, .string v7]) rfl) 3 (.int .i64 (wrap64 v3)) (cs' := #[.string v0, .int .i64 (wrap64 v1), .int .i64 (wrap64 v2), .int .i64 (wrap64 v3), .int .i64 (wrap64 v4), .string v5, .string v6, .string v7]) rfl) 4 (.int .i64 (wrap64 v4)) (cs' := #[.string v0, .int .i64 (wrap64 v1), .int .i64 (wrap64 v2), .int .i64 (wrap64 v3), .int .i64 (wrap64 v4), .string v5, .string v6, .string v7]) rfl) 5 (.string v5) (cs' := #[.string v0, .int .i64 (wrap64 v1), .int .i64 (wrap64 v2), .int .i64 (wrap64 v3), .int .i64 (wrap64 v4), .string v5, .string v6, .string v7]) rfl) 6 (.string v6) (cs' := #[.string v0, .int .i64 (wrap64 v1), .int .i64 (wrap64 v2), .int .i64 (wrap64 v3), .int .i64 (wrap64 v4), .string v5, .string v6, .string v7]) rfl) 7 (.string v7) (cs' := #[.string v0, .int .i64 (wrap64 v1), .int .i64 (wrap64 v2), .int .i64 (wrap64 v3), .int .i64 (wrap64 v4), .string v5, .string v6, .string v7]) rfl)
    have hR1 := Aside0.mk (blk_far (blk_far (blk_far (blk_far (blk_far (blk_far (blk_far (blk_far hR.out (p := ⟨B0, 0, none⟩) (Ne.symm gQR) (.string v0)) (p := ⟨B0, 1, none⟩) (Ne.symm gQR) (.int .i64 (wrap64 v1))) (p := ⟨B0, 2, none⟩) (Ne.symm gQR) (.int .i64 (wrap64 v2))) (p := ⟨B0, 3, none⟩) (Ne.symm gQR) (.int .i64 (wrap64 v3))) (p := ⟨B0, 4, none⟩) (Ne.symm gQR) (.int .i64 (wrap64 v4))) (p := ⟨B0, 5, none⟩) (Ne.symm gQR) (.string v5)) (p := ⟨B0, 6, none⟩) (Ne.symm gQR) (.string v6)) (p := ⟨B0, 7, none⟩) (Ne.symm gQR) (.string v7))
    have hP1 := Aside0.mk (blk_far (blk_far (blk_far (blk_far (blk_far (blk_far (blk_far (blk_far hP.out (p := ⟨B0, 0, none⟩) (Ne.symm gQP) (.string v0)) (p := ⟨B0, 1, none⟩) (Ne.symm gQP) (.int .i64 (wrap64 v1))) (p := ⟨B0, 2, none⟩) (Ne.symm gQP) (.int .i64 (wrap64 v2))) (p := ⟨B0, 3, none⟩) (Ne.symm gQP) (.int .i64 (wrap64 v3))) (p := ⟨B0, 4, none⟩) (Ne.symm gQP) (.int .i64 (wrap64 v4))) (p := ⟨B0, 5, none⟩) (Ne.symm gQP) (.string v5)) (p := ⟨B0, 6, none⟩) (Ne.symm gQP) (.string v6)) (p := ⟨B0, 7, none⟩) (Ne.symm gQP) (.string v7))
    have hS1 := Aside0.mk (blk_far (blk_far (blk_far (blk_far (blk_far (blk_far (blk_far (blk_far hS.out (p := ⟨B0, 0, none⟩) (Ne.symm gQS) (.string v0)) (p := ⟨B0, 1, none⟩) (Ne.symm gQS) (.int .i64 (wrap64 v1))) (p := ⟨B0, 2, none⟩) (Ne.symm gQS) (.int .i64 (wrap64 v2))) (p := ⟨B0, 3, none⟩) (Ne.symm gQS) (.int .i64 (wrap64 v3))) (p := ⟨B0, 4, none⟩) (Ne.symm gQS) (.int .i64 (wrap64 v4))) (p := ⟨B0, 5, none⟩) (Ne.symm gQS) (.string v5)) (p := ⟨B0, 6, none⟩) (Ne.symm gQS) (.string v6)) (p := ⟨B0, 7, none⟩) (Ne.symm gQS) (.string v7))
    have HB1 := Aside0.mk (below_set (j := 7) (v := .string v7) (below_set (j := 6) (v := .string v6) (below_set (j := 5) (v := .string v5) (below_set (j := 4) (v := .int .i64 (wrap64 v4)) (below_set (j := 3) (v := .int .i64 (wrap64 v3)) (below_set (j := 2) (v := .int .i64 (wrap64 v2)) (below_set (j := 1) (v := .int .i64 (wrap64 v1)) (below_set (j := 0) (v := .string v0) HB.out GQ.out) GQ.out) GQ.out) GQ.out) GQ.out) GQ.out) GQ.out) GQ.out)
    clear HB hQ hR hP hS
    generalize hW_ : ((((((((w9.setCell ⟨B0, 0, none⟩ (.string v0)).setCell ⟨B0, 1, none⟩ (.int .i64 (wrap64 v1))).setCell ⟨B0, 2, none⟩ (.int .i64 (wrap64 v2))).setCell ⟨B0, 3, none⟩ (.int .i64 (wrap64 v3))).setCell ⟨B0, 4, none⟩ (.int .i64 (wrap64 v4))).setCell ⟨B0, 5, none⟩ (.string v5)).setCell ⟨B0, 6, none⟩ (.string v6)).setCell ⟨B0, 7, none⟩ (.string v7)) = W9 at *
    clear hW_
    have hQ := hQ1
    have hR := hR1
    have hP := hP1
    have hS := hS1
    have HB := HB1
    clear HB1 hQ1 hR1 hP1 hS1
    have d0 := (blk_cell hQ.out 0).trans rfl
    have d1 := (blk_cell hQ.out 1).trans rfl
    have d2 := (blk_cell hQ.out 2).trans rfl
    have d3 := (blk_cell hQ.out 3).trans rfl
    have d4 := (blk_cell hQ.out 4).trans rfl
    have d5 := (blk_cell hQ.out 5).trans rfl
    have d6 := (blk_cell hQ.out 6).trans rfl
    have d7 := (blk_cell hQ.out 7).trans rfl
    refine bodyPost_ret (v := .tuple #[.agg #[.string v0, .int .i64 (wrap64 v1), .int .i64 (wrap64 v2), .int .i64 (wrap64 v3), .int .i64 (wrap64 v4), .string v5, .string v6, .string v7], .int .i64 0]) (by simp [results, Try.results21, go_sem, hu, d0, d1, d2, d3, d4, d5, d6, d7]) rfl ⟨rfl, HB.out⟩
  | false =>
    have h := HH.out
    rw [if_neg (by simp)] at h
    simp only [Option.some.injEq, Prod.mk.injEq] at h
    obtain ⟨rfl, rfl, rfl, rfl, rfl, rfl, rfl, rfl, rfl⟩ := h
    clear HH
    go_wp2_with (go_at_call 38; refine (pack_Reader_Done.calls s7 b7 false _ A8.out).mono ?_; rintro e w9 ⟨rfl, hb⟩; clear fQ0 cQ0 fQ1 cQ1 fQ2 cQ2 fQ3 cQ3 fQ4 cQ4 fQ5 cQ5 fQ6 cQ6 fQ7 cQ7 fR0 cR0 fR1 cR1 fP0 cP0 fP1 cP1 fP2 cP2 fP3 cP3 fS0 cS0 fS1 cS1 fS2 cS2; have hQ1 := Aside0.mk (blk_below hQ.out hb); have hR1 := Aside0.mk (blk_below hR.out hb); have hP1 := Aside0.mk (blk_below hP.out hb); have hS1 := Aside0.mk (blk_below hS.out hb); have HB1 := Aside0.mk (below_step HB.out hb); clear hb; clear HB hQ hR hP hS; have hQ := hQ1; have hR := hR1; have hP := hP1; have hS := hS1; have HB := HB1; clear HB1 hQ1 hR1 hP1 hS1; have fQ0 := blk_frozen hQ.out 0; have cQ0 := (blk_cell hQ.out 0).trans rfl; have fQ1 := blk_frozen hQ.out 1; have cQ1 := (blk_cell hQ.out 1).trans rfl; have fQ2 := blk_frozen hQ.out 2; have cQ2 := (blk_cell hQ.out 2).trans rfl; have fQ3 := blk_frozen hQ.out 3; have cQ3 := (blk_cell hQ.out 3).trans rfl; have fQ4 := blk_frozen hQ.out 4; have cQ4 := (blk_cell hQ.out 4).trans rfl; have fQ5 := blk_frozen hQ.out 5; have cQ5 := (blk_cell hQ.out 5).trans rfl; have fQ6 := blk_frozen hQ.out 6; have cQ6 := (blk_cell hQ.out 6).trans rfl; have fQ7 := blk_frozen hQ.out 7; have cQ7 := (blk_cell hQ.out 7).trans rfl; have fR0 := blk_frozen hR.out 0; have cR0 := (blk_cell hR.out 0).trans rfl; have fR1 := blk_frozen hR.out 1; have cR1 := (blk_cell hR.out 1).trans rfl; have fP0 := blk_frozen hP.out 0; have cP0 := (blk_cell hP.out 0).trans rfl; have fP1 := blk_frozen hP.out 1; have cP1 := (blk_cell hP.out 1).trans rfl; have fP2 := blk_frozen hP.out 2; have cP2 := (blk_cell hP.out 2).trans rfl; have fP3 := blk_frozen hP.out 3; have cP3 := (blk_cell hP.out 3).trans rfl; have fS0 := blk_frozen hS.out 0; have cS0 := (blk_cell hS.out 0).trans rfl; have fS1 := blk_frozen hS.out 1; have cS1 := (blk_cell hS.out 1).trans rfl; have fS2 := blk_frozen hS.out 2; have cS2 := (blk_cell hS.out 2).trans rfl)
    clear fQ0 cQ0 fQ1 cQ1 fQ2 cQ2 fQ3 cQ3 fQ4 cQ4 fQ5 cQ5 fQ6 cQ6 fQ7 cQ7 fR0 cR0 fR1 cR1 fP0 cP0 fP1 cP1 fP2 cP2 fP3 cP3 fS0 cS0 fS1 cS1 fS2 cS2
    have hQ1 := Aside0.mk (blk_put (blk_put (blk_put (blk_put (blk_put (blk_put (blk_put (blk_put hQ.out 0 (.string (⟨#[]⟩ : ByteArray)) (cs' := #[.string (⟨#[]⟩ : ByteArray), .int .i64 (wrap64 v1), .int .i64 (wrap64 v2), .int .i64 (wrap64 v3), .int .i64 (wrap64 v4), .string v5, .string v6, .string v7]) rfl) 1 (.int .i64 0) (cs' := #[.string (⟨#[]⟩ : ByteArray), .int .i64 0, .int .i64 (wrap64 v2), .int .i64 (wrap64 v3), .int .i64 (wrap64 v4), .string v5, .string v6, .string v7]) rfl) 2 (.int .i64 0) (cs' := #[.string (⟨#[]⟩ : ByteArray), .int .i64 0, .int .i64 0, .int .i64 (wrap64 v3), .int .i64 (wrap64 v4), .string v5, .string v6, .string v7]) rfl) 3 (.int .i64 0) (cs' := #[.string (⟨#[]⟩ : ByteArray), .int .i64 0, .int .i64 0, .int .i64 0, .int .i64 (wrap64 v4), .string v5, .string v6, .string v7]) rfl) 4 (.int .i64 0) (cs' := #[.string (⟨#[]⟩ : ByteArray), .int .i64 0, .int .i64 0, .int .i64 0, .int .i64 0, .string v5, .string v6, .string v7]) rfl) 5 (.string (⟨#[]⟩ : ByteArray)) (cs' := #[.string (⟨#[]⟩ : ByteArray), .int .i64 0, .int .i64 0, .int .i64 0, .int .i64 0, .string (⟨#[]⟩ : ByteArray), .string v6, .string v7]) rfl) 6 (.string (⟨#[]⟩ : ByteArray)) (cs' := #[.string (⟨#[]⟩ : ByteArray), .int .i64 0, .int .i64 0, .int .i64 0, .int .i64 0, .string (⟨#[]⟩ : ByteArray), .string (⟨#[]⟩ : ByteArray), .string v7]) rfl) 7 (.string (⟨#[]⟩ : ByteArray)) (cs' := #[.string (⟨#[]⟩ : ByteArray), .int .i64 0, .int .i64 0, .int .i64 0, .int .i64 0, .string (⟨#[]⟩ : ByteArray), .string (⟨#[]⟩ : ByteArray), .string (⟨#[]⟩ : ByteArray)]) rfl)
    have hR1 := Aside0.mk (blk_far (blk_far (blk_far (blk_far (blk_far (blk_far (blk_far (blk_far hR.out (p := ⟨B0, 0, none⟩) (Ne.symm gQR) (.string (⟨#[]⟩ : ByteArray))) (p := ⟨B0, 1, none⟩) (Ne.symm gQR) (.int .i64 0)) (p := ⟨B0, 2, none⟩) (Ne.symm gQR) (.int .i64 0)) (p := ⟨B0, 3, none⟩) (Ne.symm gQR) (.int .i64 0)) (p := ⟨B0, 4, none⟩) (Ne.symm gQR) (.int .i64 0)) (p := ⟨B0, 5, none⟩) (Ne.symm gQR) (.string (⟨#[]⟩ : ByteArray))) (p := ⟨B0, 6, none⟩) (Ne.symm gQR) (.string (⟨#[]⟩ : ByteArray))) (p := ⟨B0, 7, none⟩) (Ne.symm gQR) (.string (⟨#[]⟩ : ByteArray)))
    have hP1 := Aside0.mk (blk_far (blk_far (blk_far (blk_far (blk_far (blk_far (blk_far (blk_far hP.out (p := ⟨B0, 0, none⟩) (Ne.symm gQP) (.string (⟨#[]⟩ : ByteArray))) (p := ⟨B0, 1, none⟩) (Ne.symm gQP) (.int .i64 0)) (p := ⟨B0, 2, none⟩) (Ne.symm gQP) (.int .i64 0)) (p := ⟨B0, 3, none⟩) (Ne.symm gQP) (.int .i64 0)) (p := ⟨B0, 4, none⟩) (Ne.symm gQP) (.int .i64 0)) (p := ⟨B0, 5, none⟩) (Ne.symm gQP) (.string (⟨#[]⟩ : ByteArray))) (p := ⟨B0, 6, none⟩) (Ne.symm gQP) (.string (⟨#[]⟩ : ByteArray))) (p := ⟨B0, 7, none⟩) (Ne.symm gQP) (.string (⟨#[]⟩ : ByteArray)))
    have hS1 := Aside0.mk (blk_far (blk_far (blk_far (blk_far (blk_far (blk_far (blk_far (blk_far hS.out (p := ⟨B0, 0, none⟩) (Ne.symm gQS) (.string (⟨#[]⟩ : ByteArray))) (p := ⟨B0, 1, none⟩) (Ne.symm gQS) (.int .i64 0)) (p := ⟨B0, 2, none⟩) (Ne.symm gQS) (.int .i64 0)) (p := ⟨B0, 3, none⟩) (Ne.symm gQS) (.int .i64 0)) (p := ⟨B0, 4, none⟩) (Ne.symm gQS) (.int .i64 0)) (p := ⟨B0, 5, none⟩) (Ne.symm gQS) (.string (⟨#[]⟩ : ByteArray))) (p := ⟨B0, 6, none⟩) (Ne.symm gQS) (.string (⟨#[]⟩ : ByteArray))) (p := ⟨B0, 7, none⟩) (Ne.symm gQS) (.string (⟨#[]⟩ : ByteArray)))
    have HB1 := Aside0.mk (below_set (j := 7) (v := .string (⟨#[]⟩ : ByteArray)) (below_set (j := 6) (v := .string (⟨#[]⟩ : ByteArray)) (below_set (j := 5) (v := .string (⟨#[]⟩ : ByteArray)) (below_set (j := 4) (v := .int .i64 0) (below_set (j := 3) (v := .int .i64 0) (below_set (j := 2) (v := .int .i64 0) (below_set (j := 1) (v := .int .i64 0) (below_set (j := 0) (v := .string (⟨#[]⟩ : ByteArray)) HB.out GQ.out) GQ.out) GQ.out) GQ.out) GQ.out) GQ.out) GQ.out) GQ.out)
    clear HB hQ hR hP hS
    generalize hW_ : ((((((((w9.setCell ⟨B0, 0, none⟩ (.string (⟨#[]⟩ : ByteArray))).setCell ⟨B0, 1, none⟩ (.int .i64 0)).setCell ⟨B0, 2, none⟩ (.int .i64 0)).setCell ⟨B0, 3, none⟩ (.int .i64 0)).setCell ⟨B0, 4, none⟩ (.int .i64 0)).setCell ⟨B0, 5, none⟩ (.string (⟨#[]⟩ : ByteArray))).setCell ⟨B0, 6, none⟩ (.string (⟨#[]⟩ : ByteArray))).setCell ⟨B0, 7, none⟩ (.string (⟨#[]⟩ : ByteArray))) = W9 at *
    clear hW_
    have hQ := hQ1
    have hR := hR1
    have hP := hP1
    have hS := hS1
    have HB := HB1
    clear HB1 hQ1 hR1 hP1 hS1
    have d0 := (blk_cell hQ.out 0).trans rfl
    have d1 := (blk_cell hQ.out 1).trans rfl
    have d2 := (blk_cell hQ.out 2).trans rfl
    have d3 := (blk_cell hQ.out 3).trans rfl
    have d4 := (blk_cell hQ.out 4).trans rfl
    have d5 := (blk_cell hQ.out 5).trans rfl
    have d6 := (blk_cell hQ.out 6).trans rfl
    have d7 := (blk_cell hQ.out 7).trans rfl
    refine bodyPost_ret (v := .tuple #[.agg #[.string (⟨#[]⟩ : ByteArray), .int .i64 0, .int .i64 0, .int .i64 0, .int .i64 0, .string (⟨#[]⟩ : ByteArray), .string (⟨#[]⟩ : ByteArray), .string (⟨#[]⟩ : ByteArray)], .int .i64 2]) (by simp [results, Try.results21, go_sem, hu, d0, d1, d2, d3, d4, d5, d6, d7]) rfl ⟨rfl, HB.out⟩
/-! ### vec_Join: function 55 -/
-- FOREIGN: an array by place, a closure
def vec_Join.f (a0_0 a0_1 a0_2 a0_3 a1_0 a1_1 a1_2 a1_3 : Int) : Option (Int × Int × Int × Int) := some (mx a0_0 a1_0, mx a0_1 a1_1, mx a0_2 a1_2, mx a0_3 a1_3)
theorem vec_Join.pick (a b : Int) (w : World) :
    Calls Try.prog 59 #[.int .u64 a, .int .u64 b] w fun e w' => e = .returned (.int .u64 (mx a b)) ∧ w' = w := by
  go_enter Try.func59, Try.ntmps59
  go_wp2
  all_goals (go_ret; refine ⟨?_, rfl⟩; unfold mx; by_cases h2 : a < b <;> first | (rw [if_pos h2]; rfl) | (rw [if_neg h2]; rfl) | omega | (rw [if_pos h2, show a = b by omega]; rfl) | (rw [if_neg h2, show a = b by omega]; rfl))
theorem vec_Join.boxes3 (w : World) (xs ys zs : Array Value) (t : TypeId) (W : World) (h : ((w.alloc (.cells xs t)).alloc (.cells ys t)).alloc (.cells zs t) = W) :
    W.heap[w.heap.size]? = some (.cells xs t (0,0)) ∧ W.heap[w.heap.size+1]? = some (.cells ys t (0,0)) ∧ W.heap[w.heap.size+1+1]? = some (.cells zs t (0,0)) ∧ Below w.heap.size w W := by
  subst h
  have s1 : (w.alloc (.cells xs t)).heap.size = w.heap.size + 1 := by simp [World.alloc, -World.alloc_eq]
  have s2 : ((w.alloc (.cells xs t)).alloc (.cells ys t)).heap.size = w.heap.size + 1 + 1 := by simp [World.alloc, -World.alloc_eq]
  refine ⟨blk_alloc (blk_alloc (blk_new _ _) _) _, ?_, ?_, below_alloc (below_alloc (below_alloc (Below.refl _ _) _) _) _⟩
  · rw [← s1]; exact blk_alloc (blk_new _ _) _
  · rw [← s2]; exact blk_new _ _
set_option maxHeartbeats 8000000 in
set_option maxRecDepth 100000 in
theorem vec_Join.each (a0_0 a0_1 a0_2 a0_3 a1_0 a1_1 a1_2 a1_3 : Int) (w : World) :
    Calls Try.prog 58 #[.agg #[.int .u64 a0_0, .int .u64 a0_1, .int .u64 a0_2, .int .u64 a0_3], .agg #[.int .u64 a1_0, .int .u64 a1_1, .int .u64 a1_2, .int .u64 a1_3], .func (.func 59) #[] #[]] w fun e w' => e = .returned (.agg #[.int .u64 (mx a0_0 a1_0), .int .u64 (mx a0_1 a1_1), .int .u64 (mx a0_2 a1_2), .int .u64 (mx a0_3 a1_3)]) ∧ Below w.heap.size w w' := by
  have hu := Try.underlying28
  have hu2 := Try.underlying26
  go_enter Try.func58, Try.ntmps58
  go_wp2
  generalize hW : (((w.alloc (Obj.cells #[.int .u64 a0_0, .int .u64 a0_1, .int .u64 a0_2, .int .u64 a0_3] 28)).alloc
   (Obj.cells #[.int .u64 a1_0, .int .u64 a1_1, .int .u64 a1_2, .int .u64 a1_3] 28)).alloc (Obj.cells _ 28)) = W0
  obtain ⟨hA, hB, hC, HB⟩ := vec_Join.boxes3 _ _ _ _ _ _ hW
  replace HB := Aside0.mk HB
  clear hW
  obtain ⟨B0, hB0⟩ : ∃ B0, B0 = w.heap.size := ⟨_, rfl⟩
  obtain ⟨B1, hB1⟩ : ∃ B1, B1 = w.heap.size + 1 := ⟨_, rfl⟩
  obtain ⟨B2, hB2⟩ : ∃ B2, B2 = w.heap.size + 1 + 1 := ⟨_, rfl⟩
  rw [← hB2, ← hB1, ← hB0]
  rw [← hB0] at hA
  rw [← hB1] at hB
  rw [← hB2] at hC
  have g01 : B0 ≠ B1 := by omega
  have g02 : B0 ≠ B2 := by omega
  have GB := Aside0.mk (show w.heap.size ≤ B0 by omega)
  have GC := Aside0.mk (show w.heap.size ≤ B2 by omega)
  clear hB0 hB1 hB2
  replace hA := Aside0.mk hA
  replace hB := Aside0.mk hB
  replace hC := Aside0.mk hC
  refine wp_loop_rounds 5 ?_
  rw [rounds_succ]
  have ca := (blk_cell hA.out 0).trans rfl
  have cb := (blk_cell hB.out 0).trans rfl
  go_wp2
  go_still_tail 9, (by kernel_rfl)
  still_call (vec_Join.pick _ _ _)
  refine wpStill_nil ?_
  change wpList _ _ _ _ _ W0.drew
  clear ca cb
  have fa : W0.drew.frozen? ⟨B0, 0, none⟩ = false := blk_frozen hA.out 0
  have ca : W0.drew.cell? ⟨B0, 0, none⟩ = some (.int .u64 a0_0) := blk_cell hA.out 0
  go_wp2
  have hA1 := Aside0.mk (blk_drew (blk_put hA.out 0 (.int .u64 (mx a0_0 a1_0)) (cs' := #[.int .u64 (mx a0_0 a1_0), .int .u64 a0_1, .int .u64 a0_2, .int .u64 a0_3]) rfl))
  have hB1 := Aside0.mk (blk_drew (blk_far hB.out (p := ⟨B0, 0, none⟩) (Ne.symm g01) (.int .u64 (mx a0_0 a1_0))))
  have hC1 := Aside0.mk (blk_drew (blk_far hC.out (p := ⟨B0, 0, none⟩) (Ne.symm g02) (.int .u64 (mx a0_0 a1_0))))
  have HB1 := Aside0.mk (below_drew1 (below_set (j := 0) (v := .int .u64 (mx a0_0 a1_0)) HB.out GB.out))
  clear hA hB hC HB ca fa
  generalize (W0.setCell ⟨B0, 0, none⟩ (.int .u64 (mx a0_0 a1_0))).drew = W1 at *
  clear W0
  have hA := hA1
  have hB := hB1
  have hC := hC1
  have HB := HB1
  clear hA1 hB1 hC1 HB1
  rw [rounds_succ]
  have ca := (blk_cell hA.out 1).trans rfl
  have cb := (blk_cell hB.out 1).trans rfl
  go_wp2
  go_still_tail 9, (by kernel_rfl)
  still_call (vec_Join.pick _ _ _)
  refine wpStill_nil ?_
  change wpList _ _ _ _ _ W1.drew
  clear ca cb
  have fa : W1.drew.frozen? ⟨B0, 1, none⟩ = false := blk_frozen hA.out 1
  have ca : W1.drew.cell? ⟨B0, 1, none⟩ = some (.int .u64 a0_1) := blk_cell hA.out 1
  go_wp2
  have hA1 := Aside0.mk (blk_drew (blk_put hA.out 1 (.int .u64 (mx a0_1 a1_1)) (cs' := #[.int .u64 (mx a0_0 a1_0), .int .u64 (mx a0_1 a1_1), .int .u64 a0_2, .int .u64 a0_3]) rfl))
  have hB1 := Aside0.mk (blk_drew (blk_far hB.out (p := ⟨B0, 1, none⟩) (Ne.symm g01) (.int .u64 (mx a0_1 a1_1))))
  have hC1 := Aside0.mk (blk_drew (blk_far hC.out (p := ⟨B0, 1, none⟩) (Ne.symm g02) (.int .u64 (mx a0_1 a1_1))))
  have HB1 := Aside0.mk (below_drew1 (below_set (j := 1) (v := .int .u64 (mx a0_1 a1_1)) HB.out GB.out))
  clear hA hB hC HB ca fa
  generalize (W1.setCell ⟨B0, 1, none⟩ (.int .u64 (mx a0_1 a1_1))).drew = W2 at *
  clear W1
  have hA := hA1
  have hB := hB1
  have hC := hC1
  have HB := HB1
  clear hA1 hB1 hC1 HB1
  rw [rounds_succ]
  have ca := (blk_cell hA.out 2).trans rfl
  have cb := (blk_cell hB.out 2).trans rfl
  go_wp2
  go_still_tail 9, (by kernel_rfl)
  still_call (vec_Join.pick _ _ _)
  refine wpStill_nil ?_
  change wpList _ _ _ _ _ W2.drew
  clear ca cb
  have fa : W2.drew.frozen? ⟨B0, 2, none⟩ = false := blk_frozen hA.out 2
  have ca : W2.drew.cell? ⟨B0, 2, none⟩ = some (.int .u64 a0_2) := blk_cell hA.out 2
  go_wp2
  have hA1 := Aside0.mk (blk_drew (blk_put hA.out 2 (.int .u64 (mx a0_2 a1_2)) (cs' := #[.int .u64 (mx a0_0 a1_0), .int .u64 (mx a0_1 a1_1), .int .u64 (mx a0_2 a1_2), .int .u64 a0_3]) rfl))
  have hB1 := Aside0.mk (blk_drew (blk_far hB.out (p := ⟨B0, 2, none⟩) (Ne.symm g01) (.int .u64 (mx a0_2 a1_2))))
  have hC1 := Aside0.mk (blk_drew (blk_far hC.out (p := ⟨B0, 2, none⟩) (Ne.symm g02) (.int .u64 (mx a0_2 a1_2))))
  have HB1 := Aside0.mk (below_drew1 (below_set (j := 2) (v := .int .u64 (mx a0_2 a1_2)) HB.out GB.out))
  clear hA hB hC HB ca fa
  generalize (W2.setCell ⟨B0, 2, none⟩ (.int .u64 (mx a0_2 a1_2))).drew = W3 at *
  clear W2
  have hA := hA1
  have hB := hB1
  have hC := hC1
  have HB := HB1
  clear hA1 hB1 hC1 HB1
  rw [rounds_succ]
  have ca := (blk_cell hA.out 3).trans rfl
  have cb := (blk_cell hB.out 3).trans rfl
  go_wp2
  go_still_tail 9, (by kernel_rfl)
  still_call (vec_Join.pick _ _ _)
  refine wpStill_nil ?_
  change wpList _ _ _ _ _ W3.drew
  clear ca cb
  have fa : W3.drew.frozen? ⟨B0, 3, none⟩ = false := blk_frozen hA.out 3
  have ca : W3.drew.cell? ⟨B0, 3, none⟩ = some (.int .u64 a0_3) := blk_cell hA.out 3
  go_wp2
  have hA1 := Aside0.mk (blk_drew (blk_put hA.out 3 (.int .u64 (mx a0_3 a1_3)) (cs' := #[.int .u64 (mx a0_0 a1_0), .int .u64 (mx a0_1 a1_1), .int .u64 (mx a0_2 a1_2), .int .u64 (mx a0_3 a1_3)]) rfl))
  have hB1 := Aside0.mk (blk_drew (blk_far hB.out (p := ⟨B0, 3, none⟩) (Ne.symm g01) (.int .u64 (mx a0_3 a1_3))))
  have hC1 := Aside0.mk (blk_drew (blk_far hC.out (p := ⟨B0, 3, none⟩) (Ne.symm g02) (.int .u64 (mx a0_3 a1_3))))
  have HB1 := Aside0.mk (below_drew1 (below_set (j := 3) (v := .int .u64 (mx a0_3 a1_3)) HB.out GB.out))
  clear hA hB hC HB ca fa
  generalize (W3.setCell ⟨B0, 3, none⟩ (.int .u64 (mx a0_3 a1_3))).drew = W4 at *
  clear W3
  have hA := hA1
  have hB := hB1
  have hC := hC1
  have HB := HB1
  clear hA1 hB1 hC1 HB1
  rw [rounds_succ]
  have c0 := (blk_cell hA.out 0).trans rfl
  have c1 := (blk_cell hA.out 1).trans rfl
  have c2 := (blk_cell hA.out 2).trans rfl
  have c3 := (blk_cell hA.out 3).trans rfl
  have f0 := blk_frozen hC.out 0
  have f1 := blk_frozen hC.out 1
  have f2 := blk_frozen hC.out 2
  have f3 := blk_frozen hC.out 3
  have d0 := (blk_cell hC.out 0).trans rfl
  have d1 := (blk_cell hC.out 1).trans rfl
  have d2 := (blk_cell hC.out 2).trans rfl
  have d3 := (blk_cell hC.out 3).trans rfl
  go_wp2
  clear c0 c1 c2 c3 d0 d1 d2 d3 f0 f1 f2 f3
  have hC1 := Aside0.mk (blk_put (blk_put (blk_put (blk_put hC.out 0 (.int .u64 (mx a0_0 a1_0)) rfl) 1 (.int .u64 (mx a0_1 a1_1)) rfl) 2 (.int .u64 (mx a0_2 a1_2)) rfl) 3 (.int .u64 (mx a0_3 a1_3)) (cs' := #[.int .u64 (mx a0_0 a1_0), .int .u64 (mx a0_1 a1_1), .int .u64 (mx a0_2 a1_2), .int .u64 (mx a0_3 a1_3)]) rfl)
  have HB1 := Aside0.mk (below_set (j := 3) (v := .int .u64 (mx a0_3 a1_3)) (below_set (j := 2) (v := .int .u64 (mx a0_2 a1_2)) (below_set (j := 1) (v := .int .u64 (mx a0_1 a1_1)) (below_set (j := 0) (v := .int .u64 (mx a0_0 a1_0)) HB.out GC.out) GC.out) GC.out) GC.out)
  clear hA hB hC HB
  generalize (((W4.setCell ⟨B2, 0, none⟩ (.int .u64 (mx a0_0 a1_0))).setCell ⟨B2, 1, none⟩ (.int .u64 (mx a0_1 a1_1))).setCell ⟨B2, 2, none⟩ (.int .u64 (mx a0_2 a1_2))).setCell ⟨B2, 3, none⟩ (.int .u64 (mx a0_3 a1_3)) = W5 at *
  clear W4
  have d0 := (blk_cell hC1.out 0).trans rfl
  have d1 := (blk_cell hC1.out 1).trans rfl
  have d2 := (blk_cell hC1.out 2).trans rfl
  have d3 := (blk_cell hC1.out 3).trans rfl
  refine bodyPost_ret (v := .agg #[.int .u64 (mx a0_0 a1_0), .int .u64 (mx a0_1 a1_1), .int .u64 (mx a0_2 a1_2), .int .u64 (mx a0_3 a1_3)]) (by simp [results, Try.results58, go_sem, hu, hu2, d0, d1, d2, d3]) rfl ⟨rfl, HB1.out⟩
theorem vec_Join.calls (a0_0 a0_1 a0_2 a0_3 a1_0 a1_1 a1_2 a1_3 r1 r2 r3 r4 : Int) (w : World) (h : vec_Join.f a0_0 a0_1 a0_2 a0_3 a1_0 a1_1 a1_2 a1_3 = some (r1, r2, r3, r4)) :
    Calls Try.prog 55 #[.agg #[.int .u64 a0_0, .int .u64 a0_1, .int .u64 a0_2, .int .u64 a0_3], .agg #[.int .u64 a1_0, .int .u64 a1_1, .int .u64 a1_2, .int .u64 a1_3]] w fun e w' => e = .returned (.agg #[.int .u64 r1, .int .u64 r2, .int .u64 r3, .int .u64 r4]) ∧ Below w.heap.size w w' := by
  simp only [vec_Join.f, Option.some.injEq, Prod.mk.injEq] at h
  obtain ⟨rfl, rfl, rfl, rfl⟩ := h
  have hmf : ∀ (fn : Fn) (first cap : Array Value) (w : World), (Instr.makeFunc fn first cap).run Try.prog w = .ok (.func fn first cap) w := fun _ _ _ _ => rfl
  go_enter Try.func55, Try.ntmps55
  go_wp2_with (go_at_call 58; refine (vec_Join.each _ _ _ _ _ _ _ _ _).mono ?_; rintro e w1 ⟨rfl, hb⟩; have hX := vec_Join.boxes3 w #[.int .u64 a0_0, .int .u64 a0_1, .int .u64 a0_2, .int .u64 a0_3] #[.int .u64 a1_0, .int .u64 a1_1, .int .u64 a1_2, .int .u64 a1_3] #[.int .u64 0, .int .u64 0, .int .u64 0, .int .u64 0] 28 _ rfl; have hC := Aside0.mk (blk_below hX.2.2.1 hb); have HB := Aside0.mk (below_step hX.2.2.2 hb); clear hX; clear hb; have f0 := blk_frozen hC.out 0; have f1 := blk_frozen hC.out 1; have f2 := blk_frozen hC.out 2; have f3 := blk_frozen hC.out 3; have d0 := (blk_cell hC.out 0).trans rfl; have d1 := (blk_cell hC.out 1).trans rfl; have d2 := (blk_cell hC.out 2).trans rfl; have d3 := (blk_cell hC.out 3).trans rfl)
  clear d0 d1 d2 d3 f0 f1 f2 f3
  have GC : w.heap.size ≤ w.heap.size + 1 + 1 := by omega
  have hC1 := Aside0.mk (blk_put (blk_put (blk_put (blk_put hC.out 0 (.int .u64 (mx a0_0 a1_0)) rfl) 1 (.int .u64 (mx a0_1 a1_1)) rfl) 2 (.int .u64 (mx a0_2 a1_2)) rfl) 3 (.int .u64 (mx a0_3 a1_3)) (cs' := #[.int .u64 (mx a0_0 a1_0), .int .u64 (mx a0_1 a1_1), .int .u64 (mx a0_2 a1_2), .int .u64 (mx a0_3 a1_3)]) rfl)
  have HB1 := Aside0.mk (below_set (j := 3) (v := .int .u64 (mx a0_3 a1_3)) (below_set (j := 2) (v := .int .u64 (mx a0_2 a1_2)) (below_set (j := 1) (v := .int .u64 (mx a0_1 a1_1)) (below_set (j := 0) (v := .int .u64 (mx a0_0 a1_0)) HB.out GC) GC) GC) GC)
  clear hC HB
  generalize (((w1.setCell ⟨w.heap.size + 1 + 1, 0, none⟩ (.int .u64 (mx a0_0 a1_0))).setCell ⟨w.heap.size + 1 + 1, 1, none⟩ (.int .u64 (mx a0_1 a1_1))).setCell ⟨w.heap.size + 1 + 1, 2, none⟩ (.int .u64 (mx a0_2 a1_2))).setCell ⟨w.heap.size + 1 + 1, 3, none⟩ (.int .u64 (mx a0_3 a1_3)) = W5 at *
  have hu := Try.underlying28
  have hu2 := Try.underlying26
  have d0 := (blk_cell hC1.out 0).trans rfl
  have d1 := (blk_cell hC1.out 1).trans rfl
  have d2 := (blk_cell hC1.out 2).trans rfl
  have d3 := (blk_cell hC1.out 3).trans rfl
  refine bodyPost_ret (v := .agg #[.int .u64 (mx a0_0 a1_0), .int .u64 (mx a0_1 a1_1), .int .u64 (mx a0_2 a1_2), .int .u64 (mx a0_3 a1_3)]) (by simp [results, Try.results55, go_sem, hu, hu2, d0, d1, d2, d3]) rfl ⟨rfl, HB1.out⟩
end Go.Proofs.Ytplgbkobpanbfaa.Q
