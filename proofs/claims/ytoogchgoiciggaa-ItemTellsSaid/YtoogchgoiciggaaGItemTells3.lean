import Derived.Test.YtoogchgoiciggaaQx0
import Derived.Test.YtoogchgoiciggaaGItemTells2
import Derived.Below
import Derived.OrdersHeld
namespace Go.Proofs.Ytoogchgoiciggaa.Q
open Go.RowKit Go.Proofs.YtoogchgoiciggaaW.PrintWords Go.Proofs.YtoogchgoiciggaaW.PrintLast Go.Proofs.YtoogchgoiciggaaW.PrintMore
attribute [local go_sem] max2_int min2_int max_two min_two max_three min_three max_four min_four   -- for this text's walks alone
set_option linter.unusedVariables false
set_option linter.unusedSimpArgs false
/-! ### pack_Reader_Text: function 54 -/
def pack_Reader_Text.f (k : Nat) (a0_0 : ByteArray) (a0_1 : Bool) (a1 : Int) : Option (ByteArray × ByteArray × Bool) := (pack_Reader_Vary.f k a0_0 a0_1).bind fun bt176 => (if bt176.2.2 = true then ((pack_bad.f).bind fun bt179 => (some ((⟨#[]⟩ : ByteArray), bt179.1, bt179.2))) else (if a1 < 0 then ((pack_bad.f).bind fun bt181 => (some ((⟨#[]⟩ : ByteArray), bt181.1, bt181.2))) else (if bt176.1 > (IntKind.u64.wrap (mn a1 (bt176.2.1.size : Int))) then ((pack_bad.f).bind fun bt183 => (some ((⟨#[]⟩ : ByteArray), bt183.1, bt183.2))) else (if 0 ≤ bt176.1 then (if bt176.1 ≤ (bt176.2.1.size : Int) then (some (bt176.2.1.extract 0 (bt176.1 : Int).toNat, bt176.2.1.extract (bt176.1 : Int).toNat bt176.2.1.size, false)) else (none)) else (none)))))
theorem pack_Reader_Text.mono : ∀ a0 a1 a2 k, LeO (pack_Reader_Text.f k a0 a1 a2) (pack_Reader_Text.f (k + 1) a0 a1 a2) := by
  intro a0 a1 a2 k
  unfold pack_Reader_Text.f
  repeat' first
      | (with_reducible exact pack_Reader_Vary.mono _ _ _)
      | (with_reducible exact LeO.refl _)
      | (with_reducible exact LeO.none _)
      | (with_reducible refine LeO.ite ?_ ?_)
      | (with_reducible refine LeO.bind ?_ (fun _ => ?_))
      | exact pack_Reader_Vary.mono _ _ _
      | exact LeO.none _
      | refine LeO.ite ?_ ?_
      | refine LeO.bind ?_ (fun _ => ?_)
def pack_Reader_Text.T4 : Bool × List (List Nat × List Nat) := (true, [([], []), ([0], [0]), ([], []), ([1, 2], [1, 2]), ([], []), ([4], [4]), ([], []), ([5, 6], [5, 6]), ([7], [7]), ([3, 0, 1, 2, 3], [3]), ([8, 9, 0, 1, 2, 3, 4, 5, 6, 7, 8, 9], [8])])
def pack_Reader_Text.B4 : List Nat := [0, 1, 0, 7, 0, 16, 0, 112, 240, 15, 1023]
theorem pack_Reader_Text.tab4 : rtab .any (opsOf Try.f54 4) = pack_Reader_Text.T4 := by kernel_rfl
theorem pack_Reader_Text.bits4 : waitsOk pack_Reader_Text.T4.2 pack_Reader_Text.B4 = true := by kernel_rfl
set_option maxHeartbeats 8000000 in
set_option maxRecDepth 100000 in
theorem pack_Reader_Text.calls (k : Nat) (a0_0 : ByteArray) (a0_1 : Bool) (a1 : Int) (r1 : ByteArray) (r2 : ByteArray) (r3 : Bool) (w : World) (h : pack_Reader_Text.f k a0_0 a0_1 a1 = some (r1, r2, r3)) :
    Calls Try.prog 54 #[.agg #[.string a0_0, .bool a0_1], .int .i64 a1] w fun e w' => e = .returned (.tuple #[.string r1, .agg #[.string r2, .bool r3]]) ∧ Below w.heap.size w w' := by
  have hu97 := Try.underlying97
  have HB := Aside0.mk (Below.refl w.heap.size w)
  have H : ((pack_Reader_Vary.f k a0_0 a0_1).bind fun bt176 => (if bt176.2.2 = true then ((pack_bad.f).bind fun bt179 => (some ((⟨#[]⟩ : ByteArray), bt179.1, bt179.2))) else (if a1 < 0 then ((pack_bad.f).bind fun bt181 => (some ((⟨#[]⟩ : ByteArray), bt181.1, bt181.2))) else (if bt176.1 > (IntKind.u64.wrap (mn a1 (bt176.2.1.size : Int))) then ((pack_bad.f).bind fun bt183 => (some ((⟨#[]⟩ : ByteArray), bt183.1, bt183.2))) else (if 0 ≤ bt176.1 then (if bt176.1 ≤ (bt176.2.1.size : Int) then (some (bt176.2.1.extract 0 (bt176.1 : Int).toNat, bt176.2.1.extract (bt176.1 : Int).toNat bt176.2.1.size, false)) else (none)) else (none)))))) = some (r1, r2, r3) := h
  clear h
  replace H := Option.bind_eq_some_iff.mp H
  obtain ⟨⟨t176, t177, t178⟩, A30, H⟩ := H
  replace H : (if t178 = true then ((pack_bad.f).bind fun bt179 => (some ((⟨#[]⟩ : ByteArray), bt179.1, bt179.2))) else (if a1 < 0 then ((pack_bad.f).bind fun bt181 => (some ((⟨#[]⟩ : ByteArray), bt181.1, bt181.2))) else (if t176 > (IntKind.u64.wrap (mn a1 (t177.size : Int))) then ((pack_bad.f).bind fun bt183 => (some ((⟨#[]⟩ : ByteArray), bt183.1, bt183.2))) else (if 0 ≤ t176 then (if t176 ≤ (t177.size : Int) then (some (t177.extract 0 (t176 : Int).toNat, t177.extract (t176 : Int).toNat t177.size, false)) else (none)) else (none))))) = some (r1, r2, r3) := H
  have A3 := Aside0.mk A30
  clear A30
  by_cases c4 : t178 = true
  · subst c4
    have H1 : ((pack_bad.f).bind fun bt179 => (some ((⟨#[]⟩ : ByteArray), bt179.1, bt179.2))) = some (r1, r2, r3) := by rw [if_pos rfl] at H; exact H
    clear H
    have H := H1
    clear H1
    replace H := Option.bind_eq_some_iff.mp H
    obtain ⟨⟨t179, t180⟩, A50, H⟩ := H
    replace H : (some ((⟨#[]⟩ : ByteArray), t179, t180)) = some (r1, r2, r3) := H
    have A5 := Aside0.mk A50
    clear A50
    simp only [Option.some.injEq, Prod.mk.injEq] at H
    obtain ⟨rfl, rfl, rfl⟩ := H
    go_enter Try.func54, Try.ntmps54
    go_wp2_with (first | ((with_reducible refine gate_dst (N := 2) rfl ?_); refine box_event ?hg (N := 2) ?hd (cs := #[.string a0_0, .bool a0_1]) (t := 97) ?hr ?_; (case hd => rfl); (case hg => rfl); (case hr => first | (go_simp; done) | (go_simp; rfl)); intro gb174 hg w6 hbox hb; have BK174 := Aside0.mk (hbox); have GW174 := Kw_ HB hg; have GE174 := GW174; replace HB := Ks_ HB hb; clear hb hbox hg) | ((with_reducible refine gate_dst (N := 5) rfl ?_); refine box_event ?hg (N := 5) ?hd (cs := #[.string (⟨#[]⟩ : ByteArray), .bool false]) (t := 97) ?hr ?_; (case hd => rfl); (case hg => rfl); (case hr => first | (go_simp; done) | (go_simp; rfl)); intro gb175 hg w7 hbox hb; have BK175 := Aside0.mk (hbox); have GW175 := Kw_ HB hg; have GE175 := GW175; have NB174_175 := Kl_ BK174 hg; have NB175_174 := Kr_ BK174 hg; replace BK174 := Kb_ BK174 hb; replace HB := Ks_ HB hb; clear hb hbox hg; have hnb8 := NB174_175.out; have hnc8 := NB175_174.out; obtain ⟨hcz9_0, hcz9_1, hfz9_0, hfz9_1⟩ := Ke2_ BK174.out) | ((with_reducible refine gate_callee (f := 72) rfl ?_); refine Kg_ (some 9) rfl rfl Try.func72 (by kernel_rfl) rfl #[.agg #[.string a0_0, .bool a0_1]] rfl ?_; (with_reducible refine (pack_Reader_Vary.calls k a0_0 a0_1 t176 t177 true _ A3.out).mono ?_); rintro e w10 ⟨rfl, hb⟩; refine ⟨_, rfl, ?_⟩; replace BK174 := Kb_ BK174 hb; replace BK175 := Kb_ BK175 hb; replace HB := Ks_ HB hb; (try clear hb); (try clear hb2); (try clear hk); (try clear hi); obtain ⟨hcz11_0, hcz11_1, hfz11_0, hfz11_1⟩ := Ke2_ BK174.out) | ((with_reducible refine gate_callee (f := 71) rfl ?_); refine Kg_ (some 28) rfl rfl Try.func71 (by kernel_rfl) rfl #[] rfl ?_; (with_reducible refine (pack_bad.calls  t179 t180 _ A5.out).mono ?_); rintro e w12 ⟨rfl, hb⟩; refine ⟨_, rfl, ?_⟩; replace BK174 := Aside0.mk (blk_below (g := gb174) (o := .cells #[.string t177, .bool true] 97 (0, 0)) (by refine Kv_ ?_; refine blk_put (cs := #[.string t177, .bool a0_1]) ?_ 1 _ rfl; refine Kv_ ?_; refine blk_put (cs := #[.string a0_0, .bool a0_1]) ?_ 0 _ rfl; exact Kq_ BK174) hb); replace BK175 := Kf_ BK175 NB175_174 hb; replace HB := Kt_ HB GE174 hb; (try clear hb); (try clear hb2); (try clear hk); (try clear hi); obtain ⟨hcz13_0, hcz13_1, hfz13_0, hfz13_1⟩ := Ke2_ BK175.out))
    refine bodyPost_ret (results_tc rfl _ _ gb175 97 #[.string t179, .bool t180] (0, 0) _ rfl (by refine Kv_ ?_; refine blk_put (cs := #[.string t179, .bool false]) ?_ 1 _ rfl; refine Kv_ ?_; refine blk_put (cs := #[.string (⟨#[]⟩ : ByteArray), .bool false]) ?_ 0 _ rfl; exact Kq_ BK175) Try.underlying97 rfl (by kernel_rfl)) rfl ?_
    exact ⟨Kh_, by repeat (first | (with_reducible first | exact HB.out | apply below_alloc | apply pw_below_drewN | apply below_drew1 | refine below_set ?_ GE174.out | refine below_set ?_ GE175.out) | exact HB.out)⟩
  replace c4 := Bool.eq_false_iff.mpr c4
  subst c4
  have H1 : (if a1 < 0 then ((pack_bad.f).bind fun bt181 => (some ((⟨#[]⟩ : ByteArray), bt181.1, bt181.2))) else (if t176 > (IntKind.u64.wrap (mn a1 (t177.size : Int))) then ((pack_bad.f).bind fun bt183 => (some ((⟨#[]⟩ : ByteArray), bt183.1, bt183.2))) else (if 0 ≤ t176 then (if t176 ≤ (t177.size : Int) then (some (t177.extract 0 (t176 : Int).toNat, t177.extract (t176 : Int).toNat t177.size, false)) else (none)) else (none)))) = some (r1, r2, r3) := by rw [if_neg (show ¬ (false = true) by decide)] at H; exact H
  clear H
  have H := H1
  clear H1
  by_cases c14 : a1 < 0
  · rw [if_pos c14] at H
    have c14b0 : decide (a1 < 0) = true := decide_eq_true c14
    clear c14
    replace H := Option.bind_eq_some_iff.mp H
    obtain ⟨⟨t181, t182⟩, A150, H⟩ := H
    replace H : (some ((⟨#[]⟩ : ByteArray), t181, t182)) = some (r1, r2, r3) := H
    have A15 := Aside0.mk A150
    clear A150
    simp only [Option.some.injEq, Prod.mk.injEq] at H
    obtain ⟨rfl, rfl, rfl⟩ := H
    go_enter Try.func54, Try.ntmps54
    go_wp2_with (first | ((with_reducible refine gate_dst (N := 2) rfl ?_); refine box_event ?hg (N := 2) ?hd (cs := #[.string a0_0, .bool a0_1]) (t := 97) ?hr ?_; (case hd => rfl); (case hg => rfl); (case hr => first | (go_simp; done) | (go_simp; rfl)); intro gb174 hg w16 hbox hb; have BK174 := Aside0.mk (hbox); have GW174 := Kw_ HB hg; have GE174 := GW174; replace HB := Ks_ HB hb; clear hb hbox hg) | ((with_reducible refine gate_dst (N := 5) rfl ?_); refine box_event ?hg (N := 5) ?hd (cs := #[.string (⟨#[]⟩ : ByteArray), .bool false]) (t := 97) ?hr ?_; (case hd => rfl); (case hg => rfl); (case hr => first | (go_simp; done) | (go_simp; rfl)); intro gb175 hg w17 hbox hb; have BK175 := Aside0.mk (hbox); have GW175 := Kw_ HB hg; have GE175 := GW175; have NB174_175 := Kl_ BK174 hg; have NB175_174 := Kr_ BK174 hg; replace BK174 := Kb_ BK174 hb; replace HB := Ks_ HB hb; clear hb hbox hg; have hnb18 := NB174_175.out; have hnc18 := NB175_174.out; obtain ⟨hcz19_0, hcz19_1, hfz19_0, hfz19_1⟩ := Ke2_ BK174.out) | ((with_reducible refine gate_callee (f := 72) rfl ?_); refine Kg_ (some 9) rfl rfl Try.func72 (by kernel_rfl) rfl #[.agg #[.string a0_0, .bool a0_1]] rfl ?_; (with_reducible refine (pack_Reader_Vary.calls k a0_0 a0_1 t176 t177 false _ A3.out).mono ?_); rintro e w20 ⟨rfl, hb⟩; refine ⟨_, rfl, ?_⟩; replace BK174 := Kb_ BK174 hb; replace BK175 := Kb_ BK175 hb; replace HB := Ks_ HB hb; (try clear hb); (try clear hb2); (try clear hk); (try clear hi); obtain ⟨hcz21_0, hcz21_1, hfz21_0, hfz21_1⟩ := Ke2_ BK174.out) | ((with_reducible refine gate_callee (f := 71) rfl ?_); refine Kg_ (some 28) rfl rfl Try.func71 (by kernel_rfl) rfl #[] rfl ?_; (with_reducible refine (pack_bad.calls  t181 t182 _ A15.out).mono ?_); rintro e w22 ⟨rfl, hb⟩; refine ⟨_, rfl, ?_⟩; replace BK174 := Aside0.mk (blk_below (g := gb174) (o := .cells #[.string t177, .bool false] 97 (0, 0)) (by refine Kv_ ?_; refine blk_put (cs := #[.string t177, .bool a0_1]) ?_ 1 _ rfl; refine Kv_ ?_; refine blk_put (cs := #[.string a0_0, .bool a0_1]) ?_ 0 _ rfl; exact Kq_ BK174) hb); replace BK175 := Kf_ BK175 NB175_174 hb; replace HB := Kt_ HB GE174 hb; (try clear hb); (try clear hb2); (try clear hk); (try clear hi); obtain ⟨hcz23_0, hcz23_1, hfz23_0, hfz23_1⟩ := Ke2_ BK175.out))
    refine bodyPost_ret (results_tc rfl _ _ gb175 97 #[.string t181, .bool t182] (0, 0) _ rfl (by refine Kv_ ?_; refine blk_put (cs := #[.string t181, .bool false]) ?_ 1 _ rfl; refine Kv_ ?_; refine blk_put (cs := #[.string (⟨#[]⟩ : ByteArray), .bool false]) ?_ 0 _ rfl; exact Kq_ BK175) Try.underlying97 rfl (by kernel_rfl)) rfl ?_
    exact ⟨Kh_, by repeat (first | (with_reducible first | exact HB.out | apply below_alloc | apply pw_below_drewN | apply below_drew1 | refine below_set ?_ GE174.out | refine below_set ?_ GE175.out) | exact HB.out)⟩
  rw [if_neg c14] at H
  have c14b0 : decide (a1 < 0) = false := decide_eq_false c14
  clear c14
  obtain ⟨ji24, hji24⟩ : ∃ j_ : Int, (mn a1 (t177.size : Int)) = j_ := ⟨_, rfl⟩
  replace H : (if t176 > (IntKind.u64.wrap (ji24)) then ((pack_bad.f).bind fun bt183 => (some ((⟨#[]⟩ : ByteArray), bt183.1, bt183.2))) else (if 0 ≤ t176 then (if t176 ≤ (t177.size : Int) then (some (t177.extract 0 (t176 : Int).toNat, t177.extract (t176 : Int).toNat t177.size, false)) else (none)) else (none))) = some (r1, r2, r3) := by first | (rw [hji24] at H; exact H) | (simp only [hji24] at H ⊢; exact H)
  (try rw [hji24] at A3)
  have hji24_ : (if (t177.size : Int) < a1 then (t177.size : Int) else a1) = ji24 := hji24
  by_cases c25 : t176 > (IntKind.u64.wrap (ji24))
  · rw [if_pos c25] at H
    have c25b0 : decide ((IntKind.u64.wrap (ji24)) < t176) = true := decide_eq_true c25
    clear c25
    replace H := Option.bind_eq_some_iff.mp H
    obtain ⟨⟨t183, t184⟩, A260, H⟩ := H
    replace H : (some ((⟨#[]⟩ : ByteArray), t183, t184)) = some (r1, r2, r3) := H
    have A26 := Aside0.mk A260
    clear A260
    simp only [Option.some.injEq, Prod.mk.injEq] at H
    obtain ⟨rfl, rfl, rfl⟩ := H
    go_enter Try.func54, Try.ntmps54
    go_wp2_with (first | ((with_reducible refine gate_dst (N := 2) rfl ?_); refine box_event ?hg (N := 2) ?hd (cs := #[.string a0_0, .bool a0_1]) (t := 97) ?hr ?_; (case hd => rfl); (case hg => rfl); (case hr => first | (go_simp; done) | (go_simp; rfl)); intro gb174 hg w27 hbox hb; have BK174 := Aside0.mk (hbox); have GW174 := Kw_ HB hg; have GE174 := GW174; replace HB := Ks_ HB hb; clear hb hbox hg) | ((with_reducible refine gate_dst (N := 5) rfl ?_); refine box_event ?hg (N := 5) ?hd (cs := #[.string (⟨#[]⟩ : ByteArray), .bool false]) (t := 97) ?hr ?_; (case hd => rfl); (case hg => rfl); (case hr => first | (go_simp; done) | (go_simp; rfl)); intro gb175 hg w28 hbox hb; have BK175 := Aside0.mk (hbox); have GW175 := Kw_ HB hg; have GE175 := GW175; have NB174_175 := Kl_ BK174 hg; have NB175_174 := Kr_ BK174 hg; replace BK174 := Kb_ BK174 hb; replace HB := Ks_ HB hb; clear hb hbox hg; have hnb29 := NB174_175.out; have hnc29 := NB175_174.out; obtain ⟨hcz30_0, hcz30_1, hfz30_0, hfz30_1⟩ := Ke2_ BK174.out) | ((with_reducible refine gate_callee (f := 72) rfl ?_); refine Kg_ (some 9) rfl rfl Try.func72 (by kernel_rfl) rfl #[.agg #[.string a0_0, .bool a0_1]] rfl ?_; (with_reducible refine (pack_Reader_Vary.calls k a0_0 a0_1 t176 t177 false _ A3.out).mono ?_); rintro e w31 ⟨rfl, hb⟩; refine ⟨_, rfl, ?_⟩; replace BK174 := Kb_ BK174 hb; replace BK175 := Kb_ BK175 hb; replace HB := Ks_ HB hb; (try clear hb); (try clear hb2); (try clear hk); (try clear hi); obtain ⟨hcz32_0, hcz32_1, hfz32_0, hfz32_1⟩ := Ke2_ BK174.out) | ((with_reducible refine gate_callee (f := 71) rfl ?_); refine Kg_ (some 28) rfl rfl Try.func71 (by kernel_rfl) rfl #[] rfl ?_; (with_reducible refine (pack_bad.calls  t183 t184 _ A26.out).mono ?_); rintro e w33 ⟨rfl, hb⟩; refine ⟨_, rfl, ?_⟩; replace BK174 := Aside0.mk (blk_below (g := gb174) (o := .cells #[.string t177, .bool false] 97 (0, 0)) (by refine Kv_ ?_; refine blk_put (cs := #[.string t177, .bool a0_1]) ?_ 1 _ rfl; refine Kv_ ?_; refine blk_put (cs := #[.string a0_0, .bool a0_1]) ?_ 0 _ rfl; exact Kq_ BK174) hb); replace BK175 := Kf_ BK175 NB175_174 hb; replace HB := Kt_ HB GE174 hb; (try clear hb); (try clear hb2); (try clear hk); (try clear hi); obtain ⟨hcz34_0, hcz34_1, hfz34_0, hfz34_1⟩ := Ke2_ BK175.out))
    refine bodyPost_ret (results_tc rfl _ _ gb175 97 #[.string t183, .bool t184] (0, 0) _ rfl (by refine Kv_ ?_; refine blk_put (cs := #[.string t183, .bool false]) ?_ 1 _ rfl; refine Kv_ ?_; refine blk_put (cs := #[.string (⟨#[]⟩ : ByteArray), .bool false]) ?_ 0 _ rfl; exact Kq_ BK175) Try.underlying97 rfl (by kernel_rfl)) rfl ?_
    exact ⟨by first | rfl | (simp [errW_none, errW_some] <;> rfl) | (simp only [← hji24]; first | rfl | (simp [errW_none, errW_some] <;> rfl)) | (simp [*, errW_none, errW_some] <;> rfl), by repeat (first | (with_reducible first | exact HB.out | apply below_alloc | apply pw_below_drewN | apply below_drew1 | refine below_set ?_ GE174.out | refine below_set ?_ GE175.out) | exact HB.out)⟩
  rw [if_neg c25] at H
  have c25b0 : decide ((IntKind.u64.wrap (ji24)) < t176) = false := decide_eq_false c25
  clear c25
  by_cases c35 : 0 ≤ t176
  rotate_left
  · rw [if_neg c35] at H
    exact absurd H (by simp)
  rw [if_pos c35] at H
  have c35b0 := eq_true c35
  have c35b1 : decide (0 ≤ t176) = true := decide_eq_true c35
  clear c35
  by_cases c36 : t176 ≤ (t177.size : Int)
  rotate_left
  · rw [if_neg c36] at H
    exact absurd H (by simp)
  rw [if_pos c36] at H
  have c36b0 := eq_true c36
  have c36b1 : decide (t176 ≤ (t177.size : Int)) = true := decide_eq_true c36
  clear c36
  have c37b0 := eq_true (of_decide_eq_true (by first | (with_reducible assumption) | assumption) : 0 ≤ t176)
  have c38b0 := eq_true (of_decide_eq_true (by first | (with_reducible assumption) | assumption) : t176 ≤ (t177.size : Int))
  simp only [Option.some.injEq, Prod.mk.injEq] at H
  obtain ⟨rfl, rfl, rfl⟩ := H
  go_enter Try.func54, Try.ntmps54
  try go_wp2_with (first | ((with_reducible refine gate_dst (N := 2) rfl ?_); refine box_event ?hg (N := 2) ?hd (cs := #[.string a0_0, .bool a0_1]) (t := 97) ?hr ?_; (case hd => rfl); (case hg => rfl); (case hr => first | (go_simp; done) | (go_simp; rfl)); intro gb174 hg w39 hbox hb; have BK174 := Aside0.mk (hbox); have GW174 := Kw_ HB hg; have GE174 := GW174; replace HB := Ks_ HB hb; clear hb hbox hg) | ((with_reducible refine gate_dst (N := 5) rfl ?_); refine box_event ?hg (N := 5) ?hd (cs := #[.string (⟨#[]⟩ : ByteArray), .bool false]) (t := 97) ?hr ?_; (case hd => rfl); (case hg => rfl); (case hr => first | (go_simp; done) | (go_simp; rfl)); intro gb175 hg w40 hbox hb; have BK175 := Aside0.mk (hbox); have GW175 := Kw_ HB hg; have GE175 := GW175; have NB174_175 := Kl_ BK174 hg; have NB175_174 := Kr_ BK174 hg; replace BK174 := Kb_ BK174 hb; replace HB := Ks_ HB hb; clear hb hbox hg; have hnb41 := NB174_175.out; have hnc41 := NB175_174.out; obtain ⟨hcz42_0, hcz42_1, hfz42_0, hfz42_1⟩ := Ke2_ BK174.out) | ((with_reducible refine gate_callee (f := 72) rfl ?_); refine Kg_ (some 9) rfl rfl Try.func72 (by kernel_rfl) rfl #[.agg #[.string a0_0, .bool a0_1]] rfl ?_; (with_reducible refine (pack_Reader_Vary.calls k a0_0 a0_1 t176 t177 false _ A3.out).mono ?_); rintro e w43 ⟨rfl, hb⟩; refine ⟨_, rfl, ?_⟩; replace BK174 := Kb_ BK174 hb; replace BK175 := Kb_ BK175 hb; replace HB := Ks_ HB hb; (try clear hb); (try clear hb2); (try clear hk); (try clear hi); obtain ⟨hcz44_0, hcz44_1, hfz44_0, hfz44_1⟩ := Ke2_ BK174.out))
  have n0_ : Aside0 (((w43.setCell ⟨gb174, 0, none⟩ (.string t177)).setCell ⟨gb174, 1, none⟩ (.bool false)).heap[gb174]? = some (.cells #[.string t177, .bool false] 97 (0, 0))) := ⟨by refine Kv_ ?_; refine blk_put (cs := #[.string t177, .bool a0_1]) ?_ 1 _ rfl; refine Kv_ ?_; refine blk_put (cs := #[.string a0_0, .bool a0_1]) ?_ 0 _ rfl; exact Kq_ BK174⟩
  have n1_ : Aside0 (((w43.setCell ⟨gb174, 0, none⟩ (.string t177)).setCell ⟨gb174, 1, none⟩ (.bool false)).heap[gb175]? = some (.cells #[.string (⟨#[]⟩ : ByteArray), .bool false] 97 (0, 0))) := ⟨by (repeat (first | (with_reducible first | refine blk_drewN ?_ _ | refine blk_drew ?_ | refine blk_alloc ?_ _) | refine blk_far ?_ NB175_174.out _)); exact BK175.out⟩
  have n2_ : Aside0 (Below w.heap.size w ((w43.setCell ⟨gb174, 0, none⟩ (.string t177)).setCell ⟨gb174, 1, none⟩ (.bool false))) := ⟨by repeat (first | (with_reducible first | exact HB.out | apply below_alloc | apply pw_below_drewN | apply below_drew1 | refine below_set ?_ GE174.out | refine below_set ?_ GE175.out) | exact HB.out)⟩
  (try clear BK174)
  (try clear BK175)
  (try clear HB)
  generalize ((w43.setCell ⟨gb174, 0, none⟩ (.string t177)).setCell ⟨gb174, 1, none⟩ (.bool false)) = w45 at n0_ n1_ n2_ ⊢
  have BK174 := n0_
  have BK175 := n1_
  have HB := n2_
  clear n0_ n1_ n2_
  replace BK174 := Kd_ BK174
  replace BK175 := Kd_ BK175
  replace HB := Aside0.mk (below_drew1 HB.out)
  refine start_ (n := 11) (S := fun w' => w'.cell? ⟨gb174, 0, none⟩ = some (.string t177) ∧ w'.cell? ⟨gb174, 1, none⟩ = some (.bool false)) (ds := []) #[false, false, false, false, false, false, false, false, false, false, false] (by kernel_rfl) rfl rfl (Kc2_ BK174.out) (fun hHeld => ?_); refine with_tabW pack_Reader_Text.tab4 pack_Reader_Text.bits4 (fun HT_ HW_ => ?_)
  generalize w45.drew = w46 at BK174 BK175 HB hHeld ⊢
  refine pure_ (i := 0) (N := some 29) (v := ?_) (a' := ?_) #[true, false, false, false, false, false, false, false, false, false, false] rfl rfl (any_of HT_.out (by kernel_rfl)) (fun _ _ _ h => h) (Or.inl ⟨by rfl, ?_⟩) ?_ ?_
  rotate_left
  · intro w'
    go_simp
    with_reducible rfl
  rotate_left
  · simp only [Act.put, List.setIfInBounds_toArray, List.set_cons_zero, List.set_cons_succ, i64_w, i32_w]
    rfl
  refine pure_ (i := 2) (N := some 31) (v := ?_) (a' := ?_) #[true, false, true, false, false, false, false, false, false, false, false] rfl rfl (any_of HT_.out (by kernel_rfl)) (fun _ _ _ h => h) (Or.inl ⟨by rfl, ?_⟩) ?_ ?_
  rotate_left
  · intro w'
    go_simp
    with_reducible rfl
  rotate_left
  · simp only [Act.put, List.setIfInBounds_toArray, List.set_cons_zero, List.set_cons_succ, i64_w, i32_w]
    rfl
  refine pure_ (i := 4) (N := some 33) (v := ?_) (a' := ?_) #[true, false, true, false, true, false, false, false, false, false, false] rfl rfl (any_of HT_.out (by kernel_rfl)) (fun _ _ _ h => h) (Or.inl ⟨by rfl, ?_⟩) ?_ ?_
  rotate_left
  · intro w'
    go_simp
    with_reducible rfl
  rotate_left
  · simp only [Act.put, List.setIfInBounds_toArray, List.set_cons_zero, List.set_cons_succ, i64_w, i32_w]
    rfl
  refine pure_ (i := 6) (N := some 35) (v := ?_) (a' := ?_) #[true, false, true, false, true, false, true, false, false, false, false] rfl rfl (any_of HT_.out (by kernel_rfl)) (fun _ _ _ h => h) (Or.inl ⟨by rfl, ?_⟩) ?_ ?_
  rotate_left
  · intro w'
    go_simp
    with_reducible rfl
  rotate_left
  · simp only [Act.put, List.setIfInBounds_toArray, List.set_cons_zero, List.set_cons_succ, i64_w, i32_w]
    rfl
  refine take_ (i := 1) (N := some 30) (v := ?_) (a' := ?_) #[true, true, true, false, true, false, true, false, false, false, false] rfl rfl (take_ofW HT_.out HW_.out (by kernel_rfl)) (fun _ _ _ h => h) (Or.inl ⟨by rfl, ?_⟩) hHeld ?_ ?_
  rotate_left
  · rintro w' ⟨s0, s1⟩
    go_simp
    with_reducible rfl
  rotate_left
  · simp only [Act.put, List.setIfInBounds_toArray, List.set_cons_zero, List.set_cons_succ, i64_w, i32_w]
    rfl
  refine pure_ (i := 3) (N := some 32) (v := ?_) (a' := ?_) #[true, true, true, true, true, false, true, false, false, false, false] rfl rfl (any_of HT_.out (by kernel_rfl)) (fun _ _ _ h => h) (Or.inl ⟨by rfl, ?_⟩) ?_ ?_
  rotate_left
  · intro w'
    go_simp
    with_reducible rfl
  rotate_left
  · simp only [Act.put, List.setIfInBounds_toArray, List.set_cons_zero, List.set_cons_succ, i64_w, i32_w]
    rfl
  refine pure_ (i := 9) (N := some 4) (v := ?_) (a' := ?_) #[true, true, true, true, true, false, true, false, false, true, false] rfl rfl (any_of HT_.out (by kernel_rfl)) (fun _ _ _ h => h) (Or.inl ⟨by rfl, ?_⟩) ?_ ?_
  rotate_left
  · intro w'
    go_simp
    with_reducible rfl
  rotate_left
  · simp only [Act.put, List.setIfInBounds_toArray, List.set_cons_zero, List.set_cons_succ, i64_w, i32_w]
    rfl
  refine take_ (i := 5) (N := some 34) (v := ?_) (a' := ?_) #[true, true, true, true, true, true, true, false, false, true, false] rfl rfl (take_ofW HT_.out HW_.out (by kernel_rfl)) (fun _ _ _ h => h) (Or.inl ⟨by rfl, ?_⟩) hHeld ?_ ?_
  rotate_left
  · rintro w' ⟨s0, s1⟩
    go_simp
    with_reducible rfl
  rotate_left
  · simp only [Act.put, List.setIfInBounds_toArray, List.set_cons_zero, List.set_cons_succ, i64_w, i32_w]
    rfl
  refine pure_ (i := 7) (N := some 36) (v := ?_) (a' := ?_) #[true, true, true, true, true, true, true, true, false, true, false] rfl rfl (any_of HT_.out (by kernel_rfl)) (fun _ _ _ h => h) (Or.inl ⟨by rfl, ?_⟩) ?_ ?_
  rotate_left
  · intro w'
    go_simp
    with_reducible rfl
  rotate_left
  · simp only [Act.put, List.setIfInBounds_toArray, List.set_cons_zero, List.set_cons_succ, i64_w, i32_w]
    rfl
  refine pure_ (i := 8) (N := some 37) (v := ?_) (a' := ?_) #[true, true, true, true, true, true, true, true, true, true, false] rfl rfl (any_of HT_.out (by kernel_rfl)) (fun _ _ _ h => h) (Or.inl ⟨by rfl, ?_⟩) ?_ ?_
  rotate_left
  · intro w'
    go_simp
    with_reducible rfl
  rotate_left
  · simp only [Act.put, List.setIfInBounds_toArray, List.set_cons_zero, List.set_cons_succ, i64_w, i32_w]
    rfl
  refine one_ (i := 10) (N := none) #[true, true, true, true, true, true, true, true, true, true, true] rfl rfl (one_of HT_.out (by kernel_rfl)) (by decide) (fun K hK => ?_)
  have hs47 : w46.cell? ⟨gb175, 0, none⟩ = some (.string (⟨#[]⟩ : ByteArray)) := (blk_cell BK175.out 0).trans rfl
  have hfs47 := blk_frozen BK175.out 0
  have hns47_0 := NB174_175.out
  have hms47_0 := NB175_174.out
  have hs48 : w46.cell? ⟨gb175, 1, none⟩ = some (.bool false) := (blk_cell BK175.out 1).trans rfl
  have hfs48 := blk_frozen BK175.out 1
  have hns48_0 := NB174_175.out
  have hms48_0 := NB175_174.out
  refine skip_ (w1 := ?_) (by rfl) rfl ?_ ?_
  rotate_left
  · go_simp
    rfl
  refine hK.out _ _ ⟨((cell_far (p := ⟨gb175, _, none⟩) NB174_175.out _).trans (((cell_far (p := ⟨gb175, _, none⟩) NB174_175.out _).trans (hHeld.1)))), ((cell_far (p := ⟨gb175, _, none⟩) NB174_175.out _).trans (((cell_far (p := ⟨gb175, _, none⟩) NB174_175.out _).trans (hHeld.2))))⟩ (fun hHeld => ?_)
  clear hK K
  refine done_ (done_of HT_.out (by kernel_rfl)) ?_
  try go_wp2
  refine bodyPost_ret (results_tc rfl _ _ gb175 97 #[.string (t177.extract (t176 : Int).toNat t177.size), .bool false] (0, 0) _ rfl (by refine Kv_ ?_; refine blk_put (cs := #[.string (t177.extract (t176 : Int).toNat t177.size), .bool false]) ?_ 1 _ rfl; refine Kv_ ?_; refine blk_put (cs := #[.string (⟨#[]⟩ : ByteArray), .bool false]) ?_ 0 _ rfl; exact Kq_ BK175) Try.underlying97 rfl (by kernel_rfl)) rfl ?_
  exact ⟨by first | rfl | (simp [errW_none, errW_some] <;> rfl) | (simp only [← hji24]; first | rfl | (simp [errW_none, errW_some] <;> rfl)) | (simp [*, errW_none, errW_some] <;> rfl), by repeat (first | (with_reducible first | exact HB.out | apply below_alloc | apply pw_below_drewN | apply below_drew1 | refine below_set ?_ GE174.out | refine below_set ?_ GE175.out) | exact HB.out)⟩
/-! ### pack_Reader_Done: function 55 -/
def pack_Reader_Done.f (a0_0 : ByteArray) (a0_1 : Bool) : Option (Bool) := if a0_1 = true then (some false) else (some (a0_0.toList == ([] : List UInt8)))
set_option maxHeartbeats 8000000 in
set_option maxRecDepth 100000 in
theorem pack_Reader_Done.calls (a0_0 : ByteArray) (a0_1 : Bool) (r : Bool) (w : World) (h : pack_Reader_Done.f a0_0 a0_1 = some r) :
    Calls Try.prog 55 #[.agg #[.string a0_0, .bool a0_1]] w fun e w' => e = .returned (.bool r) ∧ Below w.heap.size w w' := by
  have hu97 := Try.underlying97
  have HB := Aside0.mk (Below.refl w.heap.size w)
  have H : (if a0_1 = true then (some false) else (some (a0_0.toList == ([] : List UInt8)))) = some r := h
  clear h
  by_cases c2 : a0_1 = true
  · subst c2
    have H1 : (some false) = some r := by rw [if_pos rfl] at H; exact H
    clear H
    have H := H1
    clear H1
    obtain rfl := Option.some.inj H
    go_enter Try.func55, Try.ntmps55
    go_wp2_with (first | ((with_reducible refine gate_dst (N := 1) rfl ?_); refine box_event ?hg (N := 1) ?hd (cs := #[.string a0_0, .bool true]) (t := 97) ?hr ?_; (case hd => rfl); (case hg => rfl); (case hr => first | (go_simp; done) | (go_simp; rfl)); intro gb185 hg w3 hbox hb; have BK185 := Aside0.mk (hbox); have GW185 := Kw_ HB hg; have GE185 := GW185; replace HB := Ks_ HB hb; clear hb hbox hg; obtain ⟨hcz4_0, hcz4_1, hfz4_0, hfz4_1⟩ := Ke2_ BK185.out))
    go_ret
    exact ⟨Kh_, Kz_ HB GE185⟩
  replace c2 := Bool.eq_false_iff.mpr c2
  subst c2
  have H1 : (some (a0_0.toList == ([] : List UInt8))) = some r := by rw [if_neg (show ¬ (false = true) by decide)] at H; exact H
  clear H
  have H := H1
  clear H1
  obtain rfl := Option.some.inj H
  go_enter Try.func55, Try.ntmps55
  go_wp2_with (first | ((with_reducible refine gate_dst (N := 1) rfl ?_); refine box_event ?hg (N := 1) ?hd (cs := #[.string a0_0, .bool false]) (t := 97) ?hr ?_; (case hd => rfl); (case hg => rfl); (case hr => first | (go_simp; done) | (go_simp; rfl)); intro gb185 hg w5 hbox hb; have BK185 := Aside0.mk (hbox); have GW185 := Kw_ HB hg; have GE185 := GW185; replace HB := Ks_ HB hb; clear hb hbox hg; obtain ⟨hcz6_0, hcz6_1, hfz6_0, hfz6_1⟩ := Ke2_ BK185.out))
  go_ret
  exact ⟨Kh_, Kz_ HB GE185⟩
end Go.Proofs.Ytoogchgoiciggaa.Q

/- A region that draws its order, by an invariant: each operation once, whatever has come up ahead of it. -/
set_option linter.unusedVariables false
set_option linter.unusedSimpArgs false
namespace Go.Proofs.Ytoogchgoiciggaa.Inv
open Go Go.RowKit
section
variable {P : Program} {ops : Array Oper} {Q : Exit → Act → World → Prop}
/-- How many have not come up yet. -/
def left (L : Array Bool) : Nat := L.toList.countP (fun b => !b)
theorem left_set {L : Array Bool} {i : Nat} (h : L.getD i true = false) : left (L.setIfInBounds i true) + 1 = left L := by
  have hi : i < L.size := by
    rcases Nat.lt_or_ge i L.size with h' | h'
    · exact h'
    · simp [Array.getElem?_eq_none h'] at h
  have hv : L.toList[i]'(by simpa using hi) = false := by simpa [hi] using h
  unfold left
  rw [Array.toList_setIfInBounds, List.countP_set (by simpa using hi), hv]
  have hp : 0 < L.toList.countP (fun b => !b) := List.countP_pos_iff.2 ⟨false, by rw [← hv]; exact List.getElem_mem _, rfl⟩
  simp only [Bool.not_false, Bool.not_true, if_true, Bool.false_eq_true, if_false, Nat.add_zero]
  omega
theorem any_inv (Inv : Array Bool → Act → World → Prop) (hd : ∀ L a w, Inv L a w → Region.ready .any ops L = [] → Q .normal a w)
    (hs : ∀ L a w i, Inv L a w → i ∈ Region.ready .any ops L → wpOp P ops Q i (fun a' w' => Inv (L.setIfInBounds i true) a' w') a w) :
    ∀ fuel L a w, left L ≤ fuel → Inv L a w → wpAny P .any ops Q fuel L a w := by
  intro fuel
  induction fuel with
  | zero =>
    intro L a w hl hI
    have h0 : Region.ready .any ops L = [] := by
      cases hr : Region.ready .any ops L with
      | nil => rfl
      | cons i t =>
        have hm := (mem_ready.1 (show i ∈ Region.ready .any ops L by rw [hr]; simp)).1
        have := left_set hm
        omega
    exact ⟨h0, hd L a w hI h0⟩
  | succ fuel ih =>
    intro L a w hl hI
    refine ⟨hd L a w hI, fun i hi => ?_⟩
    have := left_set (mem_ready.1 hi).1
    exact wpOp_mono (fun a' w' h => ih _ a' w' (by omega) h) (hs L a w i hI hi)
theorem all_of_ready {n : Nat} (hn : ops.size = n + 1) (hback : ∀ (i : Nat) (o : Oper), ops[i]? = some o → ∀ e ∈ o.after, e.on < i) {L : Array Bool} (hL : L.size = n + 1) (h : Region.ready .any ops L = []) : ∀ j, j ≤ n → L.getD j false = true := by
  intro j
  induction j using Nat.strongRecOn with
  | _ j ih =>
    intro hj
    have ho : ops[j]? = some (ops[j]'(by omega)) := Array.getElem?_eq_getElem _
    by_cases c : L.getD j true = false
    · have : j ∈ Region.ready .any ops L := mem_ready.2 ⟨c, _, ho, fun e he _ => ih e.on (hback j _ ho e he) (by have := hback j _ ho e he; omega)⟩
      rw [h] at this
      cases this
    · have hlt : j < L.size := by omega
      simpa [hlt] using c
/-- Two acts that are the same but for the places of the region's own. -/
def Like (own : List Tmp) (a0 a : Act) : Prop := a.defers = a0.defers ∧ a.tmps.size = a0.tmps.size ∧ ∀ t, t ∉ own → a.tmps.getD t undef = a0.tmps.getD t undef
theorem Like.refl (own : List Tmp) (a : Act) : Like own a a := ⟨rfl, rfl, fun _ _ => rfl⟩
theorem Like.put {own : List Tmp} {a0 a : Act} (h : Like own a0 a) {N : Tmp} (hN : N ∈ own) (v : Value) : Like own a0 (a.put (some N) v) := by
  refine ⟨h.1, by simp [Act.put, h.2.1], fun t ht => ?_⟩
  have hne : N ≠ t := fun e => ht (e ▸ hN)
  rw [← h.2.2 t ht]
  simp [Act.put, Array.getElem?_setIfInBounds_ne hne]
theorem put_same (a : Act) (N : Tmp) (v : Value) (h : N < a.tmps.size) : (a.put (some N) v).tmps.getD N undef = v := by
  simp [Act.put, h]
theorem put_ne (a : Act) {N M : Tmp} (v : Value) (h : N ≠ M) : (a.put (some N) v).tmps.getD M undef = a.tmps.getD M undef := by
  simp [Act.put, Array.getElem?_setIfInBounds_ne h]
/-- THE LAW. All but the last operation leave a value in a place of their own, and may make memory; the last one waits for all. -/
theorem region_inv {id : Nat} {a0 : Act} {w0 : World} (hm : P.follows .mixedOrders = true) (n : Nat) (hn : ops.size = n + 1) (dst : Nat → Tmp) (own : List Tmp)
    (hdst : ∀ (i : Nat) (o : Oper), i < n → ops[i]? = some o → o.dst = some (dst i) ∧ Region.wanted o = fun _ => true) (hown : ∀ i, i < n → dst i ∈ own ∧ dst i < a0.tmps.size) (hinj : ∀ i j, i < n → j < n → dst i = dst j → i = j)
    (hback : ∀ (i : Nat) (o : Oper), ops[i]? = some o → ∀ e ∈ o.after, e.on < i) (hlast : ∀ o : Oper, ops[n]? = some o → ∀ j, j < n → ∃ e ∈ o.after, Region.binds .any e = true ∧ e.on = j)
    (Spec : Nat → Value → World → Prop) (S : World → Prop) (hS : S w0.drew)
    (hstay : ∀ i v W W', S W → Below W.heap.size W W' → Spec i v W → Spec i v W')
    (hstep : ∀ (i : Nat) (o : Oper), i < n → ops[i]? = some o → ∀ (a : Act) (W : World), S W → Like own a0 a → (∀ e ∈ o.after, Region.binds .any e = true → Spec e.on (a.tmps.getD (dst e.on) undef) W) →
      ∃ v W', (execOp a.eval o).run P W = .ok (.value v) W' ∧ S W' ∧ Below W.heap.size W W' ∧ Spec i v W')
    (hend : ∀ (a : Act) (W : World), S W → Like own a0 a → (∀ i, i < n → Spec i (a.tmps.getD (dst i) undef) W) → wpOp P ops Q n (fun a' w' => Q .normal a' w') a W) :
    (Code.region id ops true).wp P Q a0 w0 := by
  refine wp_region_any hm ?_
  refine any_inv (P := P) (ops := ops) (Q := Q) (fun L a W => L.size = n + 1 ∧ (L.getD n false = false → S W ∧ Like own a0 a ∧ ∀ i, i < n → L.getD i false = true → Spec i (a.tmps.getD (dst i) undef) W) ∧ (L.getD n false = true → Q .normal a W ∧ ∀ j, j < n → L.getD j false = true)) ?_ ?_ _ _ _ _ ?_ ?_
  · intro L a W hI hr
    exact (hI.2.2 (all_of_ready hn hback hI.1 hr n (Nat.le_refl _))).1
  · intro L a W i hI hi
    obtain ⟨h0, o, ho, hdeps⟩ := mem_ready.1 hi
    have hlt : i < n + 1 := by have := (Array.getElem?_eq_some_iff.1 ho).1; omega
    have hnl : L.getD n false = false := by
      cases hc : L.getD n false with
      | false => rfl
      | true =>
        have hall := (hI.2.2 hc).2
        have hil : i < L.size := by have := hI.1; omega
        have h0' : L.getD i false = false := by simpa [hil] using h0
        by_cases c : i = n
        · rw [c, hc] at h0'; cases h0'
        · rw [hall i (by omega)] at h0'; cases h0'
    obtain ⟨hSW, hLike, hSpec⟩ := hI.2.1 hnl
    by_cases c : i = n
    · subst c
      have hall : ∀ j, j < i → L.getD j false = true := fun j hj => by
        obtain ⟨e, he, hb, rfl⟩ := hlast o ho j hj
        exact hdeps e he hb
      have hE := hend a W hSW hLike (fun j hj => hSpec j hj (hall j hj))
      refine wpOp_mono (fun a' w' hq => ⟨by simp [hI.1], ?_, fun _ => ⟨hq, fun j hj => ?_⟩⟩) hE
      · intro hc
        have : i < L.size := by have := hI.1; omega
        simp [this] at hc
      · exact getD_set_true (hall j hj)
    · have hin : i < n := by omega
      obtain ⟨hd, hw⟩ := hdst i o hin ho
      obtain ⟨v, W', hrun, hS', hB, hv⟩ := hstep i o hin ho a W hSW hLike (fun e he hb => hSpec e.on (by have := hback i o ho e he; omega) (hdeps e he hb))
      unfold wpOp
      rw [ho]
      simp only [hw, if_true]
      left
      unfold Oper.wp
      rw [hrun]
      show _ ∧ _
      have hsz : dst i < a.tmps.size := by rw [hLike.2.1]; exact (hown i hin).2
      have hne : i ≠ n := c
      refine ⟨by simp [hI.1], fun _ => ⟨hS', by rw [hd]; exact hLike.put (hown i hin).1 v, ?_⟩, fun hc => ?_⟩
      · intro j hj hl
        by_cases cj : j = i
        · subst cj
          rw [hd, put_same a _ v hsz]
          exact hv
        · rw [hd, put_ne a v (fun e => cj (hinj i j hin hj e).symm)]
          have hl' : L.getD j false = true := by rw [getD_set_ne false (Ne.symm cj)] at hl; exact hl
          exact hstay j _ W W' hSW hB (hSpec j hj hl')
      · rw [getD_set_ne false hne, hnl] at hc
        cases hc
  · show left (Array.replicate ops.size false) ≤ ops.size
    unfold left
    exact Nat.le_trans (List.countP_le_length) (by simp)
  · refine ⟨by simp [hn], fun _ => ⟨hS, Like.refl _ _, fun i _ hl => ?_⟩, fun hc => ?_⟩
    · exfalso
      by_cases c : i < ops.size
      · simp [c] at hl
      · simp [c] at hl
    · exfalso
      simp [hn] at hc
/-- What is asked of the region's text, at once. -/
def okB (ops : Array Oper) (n : Nat) (ds : List Tmp) : Bool :=
  ops.size == n + 1 && ds.length == n && (List.range n).all (fun i => (List.range n).all fun j => i == j || ds[i]? != ds[j]?) &&
  (List.range n).all (fun i => match ops[i]? with | some o => o.dst == ds[i]? && o.guard.isNone | none => false) &&
  (List.range (n + 1)).all (fun i => match ops[i]? with | some o => o.after.all (fun e => decide (e.on < i)) | none => true) &&
  (match ops[n]? with | some o => (List.range n).all (fun j => o.after.any fun e => Region.binds .any e && e.on == j) | none => false)
theorem wanted_none {o : Oper} (h : o.guard.isNone = true) : Region.wanted o = fun _ => true := by
  funext y
  unfold Region.wanted
  cases hg : o.guard with
  | none => rfl
  | some g => rw [hg] at h; cases h
theorem region_ok {id : Nat} {a0 : Act} {w0 : World} (hm : P.follows .mixedOrders = true) (n : Nat) (ds : List Tmp) (hB : okB ops n ds = true) (hsz : ∀ N ∈ ds, N < a0.tmps.size)
    (Spec : Nat → Value → World → Prop) (S : World → Prop) (hS : S w0.drew)
    (hstay : ∀ i v W W', S W → Below W.heap.size W W' → Spec i v W → Spec i v W')
    (hstep : ∀ (i : Nat) (o : Oper), i < n → ops[i]? = some o → ∀ (a : Act) (W : World), S W → Like ds a0 a → (∀ e ∈ o.after, Region.binds .any e = true → Spec e.on (a.tmps.getD (ds.getD e.on 0) undef) W) →
      ∃ v W', (execOp a.eval o).run P W = .ok (.value v) W' ∧ S W' ∧ Below W.heap.size W W' ∧ Spec i v W')
    (hend : ∀ (a : Act) (W : World), S W → Like ds a0 a → (∀ i, i < n → Spec i (a.tmps.getD (ds.getD i 0) undef) W) → wpOp P ops Q n (fun a' w' => Q .normal a' w') a W) :
    (Code.region id ops true).wp P Q a0 w0 := by
  unfold okB at hB
  simp only [Bool.and_eq_true, beq_iff_eq, List.all_eq_true, List.mem_range, Bool.or_eq_true, bne_iff_ne, decide_eq_true_eq] at hB
  obtain ⟨⟨⟨⟨⟨h1, h2⟩, h3⟩, h4⟩, h5⟩, h6⟩ := hB
  have hget : ∀ i, i < n → ds[i]? = some (ds.getD i 0) := fun i hi => by
    rw [List.getD_eq_getElem?_getD, List.getElem?_eq_getElem (by omega)]
    rfl
  have hmem : ∀ i, i < n → ds.getD i 0 ∈ ds := fun i hi => List.mem_of_getElem? (hget i hi)
  refine region_inv hm n h1 (fun i => ds.getD i 0) ds ?_ (fun i hi => ⟨hmem i hi, hsz _ (hmem i hi)⟩) ?_ ?_ ?_ Spec S hS hstay hstep hend
  · intro i o hi ho
    have := h4 i hi
    rw [ho] at this
    simp only [Bool.and_eq_true, beq_iff_eq] at this
    exact ⟨this.1.trans (hget i hi), wanted_none this.2⟩
  · intro i j hi hj e
    rcases h3 i hi j hj with h | h
    · exact h
    · rw [hget i hi, hget j hj] at h
      exact absurd (congrArg some e) h
  · intro i o ho e he
    have hi : i < n + 1 := by have := (Array.getElem?_eq_some_iff.1 ho).1; omega
    have := h5 i hi
    rw [ho] at this
    simp only [Array.all_eq_true_iff_forall_mem, decide_eq_true_eq] at this
    exact this e he
  · intro o ho j hj
    rw [ho] at h6
    simp only [List.all_eq_true, List.mem_range] at h6
    have := h6 j hj
    obtain ⟨e, he, hb⟩ := Array.any_eq_true'.1 this
    simp only [Bool.and_eq_true, beq_iff_eq] at hb
    exact ⟨e, he, hb.1, hb.2⟩
theorem tmps_eq (a : Act) (n : Nat) (h : a.tmps.size = n) : a.tmps = ((List.range n).map fun t => a.tmps.getD t undef).toArray := by
  apply Array.ext
  · simp [h]
  · intro i h1 h2
    simp [h1]
end
end Go.Proofs.Ytoogchgoiciggaa.Inv

namespace Go.Proofs.Ytoogchgoiciggaa.Q
open Go.RowKit Go.Proofs.YtoogchgoiciggaaW.PrintWords Go.Proofs.YtoogchgoiciggaaW.PrintLast Go.Proofs.YtoogchgoiciggaaW.PrintMore
attribute [local go_sem] max2_int min2_int max_two min_two max_three min_three max_four min_four   -- for this text's walks alone
set_option linter.unusedVariables false
set_option linter.unusedSimpArgs false
/-! ### tenementlaw08_Put_write: function 12 -/
-- FOREIGN: a record is built of texts of bytes; the region that draws is told by an invariant
-- import Derived.Test.YtoogchgoiciggaaInv
def tenementlaw08_Put_write.f (a0 : ByteArray) (a1 : ByteArray) (a2 : ByteArray) (a3 : Bool) (a4 : Bool) (k : Int) : Option (ByteArray × ByteArray × ByteArray × Bool) := if a4 = true then (if a2.size ≤ 9223372036854775807 then (if 224 ≤ k then some ((strOfNums [98, (IntKind.u8.wrap (48 + Int.tmod k 2))]), (strOfNums [(IntKind.u8.wrap (97 + Int.tmod (IntKind.u8.wrap (Int.tdiv k 2)) 4))]), (⟨#[]⟩ : ByteArray), true) else some ((strOfNums [98, (IntKind.u8.wrap (48 + Int.tmod k 2))]), (strOfNums [(IntKind.u8.wrap (97 + Int.tmod (IntKind.u8.wrap (Int.tdiv k 2)) 4))]), (a2.extract 0 (min a2.size 8)), false)) else none) else some (a0, a1, a2, a3)
def tenementlaw08_Put_write.Sp (gb s0 : Nat) (a2 : ByteArray) (k : Int) : Nat → Value → World → Prop
  | 0, v, _ => v = .pointer (some ⟨gb, 5, none⟩)
  | 1, v, _ => v = .int .u8 k
  | 2, v, _ => v = .int .u8 (Int.tmod k 2)
  | 3, v, _ => v = .int .u8 (IntKind.u8.wrap (48 + Int.tmod k 2))
  | 4, v, W => ∃ b, v = .slice (some ⟨b, 0, none⟩) 2 2 ∧ s0 ≤ b ∧ W.heap[b]? = some (.cells #[.int .u8 98, .int .u8 (IntKind.u8.wrap (48 + Int.tmod k 2))] 5 (0, 0))
  | 5, v, _ => v = .string (strOfNums [98, (IntKind.u8.wrap (48 + Int.tmod k 2))])
  | 6, v, _ => v = .pointer (some ⟨gb, 5, none⟩)
  | 7, v, _ => v = .int .u8 k
  | 8, v, _ => v = .int .u8 (IntKind.u8.wrap (Int.tdiv k 2))
  | 9, v, _ => v = .int .u8 (Int.tmod (IntKind.u8.wrap (Int.tdiv k 2)) 4)
  | 10, v, _ => v = .int .u8 (IntKind.u8.wrap (97 + Int.tmod (IntKind.u8.wrap (Int.tdiv k 2)) 4))
  | 11, v, W => ∃ b, v = .slice (some ⟨b, 0, none⟩) 1 1 ∧ s0 ≤ b ∧ W.heap[b]? = some (.cells #[.int .u8 (IntKind.u8.wrap (97 + Int.tmod (IntKind.u8.wrap (Int.tdiv k 2)) 4))] 5 (0, 0))
  | 12, v, _ => v = .string (strOfNums [(IntKind.u8.wrap (97 + Int.tmod (IntKind.u8.wrap (Int.tdiv k 2)) 4))])
  | 13, v, _ => v = .pointer (some ⟨gb, 0, none⟩)
  | 14, v, _ => v = .pointer (some ⟨gb, 2, none⟩)
  | 15, v, _ => v = .string a2
  | 16, v, _ => v = .pointer (some ⟨gb, 0, none⟩)
  | 17, v, _ => v = .pointer (some ⟨gb, 2, none⟩)
  | 18, v, _ => v = .string a2
  | 19, v, _ => v = .int .i64 (a2.size : Int)
  | 20, v, _ => v = .int .i64 ((min a2.size 8 : Nat) : Int)
  | 21, v, _ => v = .string (a2.extract 0 (min a2.size 8))
  | 22, v, _ => v = .pointer (some ⟨gb, 5, none⟩)
  | 23, v, _ => v = .int .u8 k
  | 24, v, _ => v = .bool (decide (224 ≤ k))
  | 25, v, _ => v = .agg #[.string (strOfNums [98, (IntKind.u8.wrap (48 + Int.tmod k 2))]), .string (strOfNums [(IntKind.u8.wrap (97 + Int.tmod (IntKind.u8.wrap (Int.tdiv k 2)) 4))]), .string (a2.extract 0 (min a2.size 8)), .bool (decide (224 ≤ k))]
  | 26, v, W => ∃ b, v = .pointer (some ⟨b, 0, none⟩) ∧ s0 ≤ b ∧ W.heap[b]? = some (.cells #[.string ⟨#[]⟩, .string ⟨#[]⟩, .string ⟨#[]⟩, .bool false] 23 (0, 0))
  | _, _, _ => True
theorem tenementlaw08_Put_write.stay (gb s0 : Nat) (a2 : ByteArray) (k : Int) : ∀ (i : Nat) (v : Value) (W W' : World), Below W.heap.size W W' → tenementlaw08_Put_write.Sp gb s0 a2 k i v W → tenementlaw08_Put_write.Sp gb s0 a2 k i v W'
  | 0, v, W, W', hb, h => h
  | 1, v, W, W', hb, h => h
  | 2, v, W, W', hb, h => h
  | 3, v, W, W', hb, h => h
  | 4, v, W, W', hb, h => by obtain ⟨b, e, hs, h⟩ := h; exact ⟨b, e, hs, blk_below h hb⟩
  | 5, v, W, W', hb, h => h
  | 6, v, W, W', hb, h => h
  | 7, v, W, W', hb, h => h
  | 8, v, W, W', hb, h => h
  | 9, v, W, W', hb, h => h
  | 10, v, W, W', hb, h => h
  | 11, v, W, W', hb, h => by obtain ⟨b, e, hs, h⟩ := h; exact ⟨b, e, hs, blk_below h hb⟩
  | 12, v, W, W', hb, h => h
  | 13, v, W, W', hb, h => h
  | 14, v, W, W', hb, h => h
  | 15, v, W, W', hb, h => h
  | 16, v, W, W', hb, h => h
  | 17, v, W, W', hb, h => h
  | 18, v, W, W', hb, h => h
  | 19, v, W, W', hb, h => h
  | 20, v, W, W', hb, h => h
  | 21, v, W, W', hb, h => h
  | 22, v, W, W', hb, h => h
  | 23, v, W, W', hb, h => h
  | 24, v, W, W', hb, h => h
  | 25, v, W, W', hb, h => h
  | 26, v, W, W', hb, h => by obtain ⟨b, e, hs, h⟩ := h; exact ⟨b, e, hs, blk_below h hb⟩
  | _ + 27, v, W, W', hb, h => trivial
theorem tenementlaw08_Put_write.boxes2 (w : World) (xs ys : Array Value) (t1 t2 : TypeId) (W : World) (h : (w.alloc (.cells xs t1)).alloc (.cells ys t2) = W) :
    W.heap[w.heap.size]? = some (.cells xs t1 (0,0)) ∧ W.heap[w.heap.size+1]? = some (.cells ys t2 (0,0)) ∧ Below w.heap.size w W := by
  subst h
  have s1 : (w.alloc (.cells xs t1)).heap.size = w.heap.size + 1 := by simp [World.alloc, -World.alloc_eq]
  refine ⟨blk_alloc (blk_new _ _) _, ?_, below_alloc (below_alloc (Below.refl _ _) _) _⟩
  rw [← s1]; exact blk_new _ _
def tenementlaw08_Put_write.St (w : World) (gb s0 : Nat) (cs : Array Value) (W : World) : Prop := W.heap[gb]? = some (.cells cs 25 (0, 0)) ∧ W.heap[gb + 1]? = some (.cells #[.string ⟨#[]⟩, .string ⟨#[]⟩, .string ⟨#[]⟩, .bool false] 23 (0, 0)) ∧ Below w.heap.size w W ∧ s0 ≤ W.heap.size
theorem tenementlaw08_Put_write.st_alloc {w : World} {gb s0 : Nat} {cs : Array Value} {W : World} (h : tenementlaw08_Put_write.St w gb s0 cs W) (o : Obj) : tenementlaw08_Put_write.St w gb s0 cs (W.alloc o) :=
  ⟨blk_alloc h.1 o, blk_alloc h.2.1 o, below_alloc h.2.2.1 o, Nat.le_trans h.2.2.2 (by simp [World.alloc, -World.alloc_eq])⟩
theorem tenementlaw08_Put_write.alloc_below (W : World) (o : Obj) : Below W.heap.size W (W.alloc o) := below_alloc (Below.refl _ _) o
theorem tenementlaw08_Put_write.op_some {P : Program} {ops : Array Oper} {Q : Exit → Act → World → Prop} {i : Nat} {o : Oper} {K : Act → World → Prop} {a : Act} {w : World} (hi : ops[i]? = some o) (hg : o.guard.isNone = true) (h : o.wp P a w K Q) : wpOp P ops Q i K a w := by
  unfold wpOp
  rw [hi]
  simp only [Go.Proofs.Ytoogchgoiciggaa.Inv.wanted_none hg, if_true]
  exact .inl h
set_option maxHeartbeats 8000000 in
set_option maxRecDepth 100000 in
theorem tenementlaw08_Put_write.calls (a0 : ByteArray) (a1 : ByteArray) (a2 : ByteArray) (a3 : Bool) (a4 : Bool) (k : Int) (r1 r2 r3 : ByteArray) (r4 : Bool) (w : World) (h : tenementlaw08_Put_write.f a0 a1 a2 a3 a4 k = some (r1, r2, r3, r4)) :
    Calls Try.prog 12 #[.agg #[.string a0, .string a1, .string a2, .bool a3, .bool a4, .int .u8 k]] w fun e w' => e = .returned (.agg #[.string r1, .string r2, .string r3, .bool r4]) ∧ Below w.heap.size w w' := by
  have hu23 := Try.underlying23
  unfold tenementlaw08_Put_write.f at h
  cases a4 with
  | false =>
    rw [if_neg (by simp)] at h
    simp only [Option.some.injEq, Prod.mk.injEq] at h
    obtain ⟨rfl, rfl, rfl, rfl⟩ := h
    go_enter Try.func12, Try.ntmps12
    go_wp2
    obtain ⟨hA, hB, HB1⟩ := tenementlaw08_Put_write.boxes2 w #[.string a0, .string a1, .string a2, .bool a3, .bool false, .int .u8 k] #[.string a0, .string a1, .string a2, .bool a3] 25 23 _ rfl
    generalize ((w.alloc (Obj.cells #[.string a0, .string a1, .string a2, .bool a3, .bool false, .int .u8 k] 25)).alloc (Obj.cells #[.string a0, .string a1, .string a2, .bool a3] 23)) = W0 at *
    obtain ⟨f0, f1, f2, f3⟩ := Kc4_ hB
    exact bodyPost_ret (v := .agg #[.string a0, .string a1, .string a2, .bool a3]) (by simp [results, Try.results12, go_sem, hu23, f0, f1, f2, f3]) rfl ⟨rfl, HB1⟩
  | true =>
    rw [if_pos rfl] at h
    by_cases hz : a2.size ≤ 9223372036854775807
    rotate_left
    · rw [if_neg hz] at h; cases h
    rw [if_pos hz] at h
    have HH := Aside0.mk h
    clear h
    go_enter Try.func12, Try.ntmps12
    go_wp2
    obtain ⟨hA, hB, HB1⟩ := tenementlaw08_Put_write.boxes2 w #[.string a0, .string a1, .string a2, .bool a3, .bool true, .int .u8 k] #[.string ⟨#[]⟩, .string ⟨#[]⟩, .string ⟨#[]⟩, .bool false] 25 23 _ rfl
    generalize ((w.alloc (Obj.cells #[.string a0, .string a1, .string a2, .bool a3, .bool true, .int .u8 k] 25)).alloc (Obj.cells #[.string ⟨#[]⟩, .string ⟨#[]⟩, .string ⟨#[]⟩, .bool false] 23)) = W0 at *
    have HB := Aside0.mk HB1
    have hlt : w.heap.size + 1 < W0.heap.size := blk_lt hB
    have hst : tenementlaw08_Put_write.St w w.heap.size W0.heap.size #[.string a0, .string a1, .string a2, .bool a3, .bool true, .int .u8 k] W0.drew := ⟨hA, hB, below_drew1 HB1, Nat.le_refl _⟩
    clear hA hB HB1
    have hmm : (if 8 < (a2.size : Int) then 8 else (a2.size : Int)) = ((min a2.size 8 : Nat) : Int) := by split <;> omega
    have m0 : (0 : Int) ≤ ((min a2.size 8 : Nat) : Int) := by omega
    have m1 : ((min a2.size 8 : Nat) : Int) ≤ (a2.size : Int) := by omega
    obtain ⟨gb, hgb⟩ : ∃ gb, gb = w.heap.size := ⟨_, rfl⟩
    obtain ⟨s0, hs0⟩ : ∃ s0, s0 = W0.heap.size := ⟨_, rfl⟩
    rw [← hgb, ← hs0] at hst
    rw [← hgb]
    refine Go.Proofs.Ytoogchgoiciggaa.Inv.region_ok (by kernel_rfl) 27 [9, 10, 11, 12, 13, 14, 15, 16, 17, 18, 19, 20, 21, 22, 23, 24, 25, 26, 27, 28, 29, 30, 31, 32, 33, 34, 3] (by kernel_rfl) (fun N hN => (show N < 39 from (by decide : ∀ N ∈ ([9, 10, 11, 12, 13, 14, 15, 16, 17, 18, 19, 20, 21, 22, 23, 24, 25, 26, 27, 28, 29, 30, 31, 32, 33, 34, 3] : List Nat), N < 39) N hN)) (tenementlaw08_Put_write.Sp gb s0 a2 k) (tenementlaw08_Put_write.St w gb s0 #[.string a0, .string a1, .string a2, .bool a3, .bool true, .int .u8 k]) hst (fun i v W W' _ hb h => tenementlaw08_Put_write.stay gb s0 a2 k i v W W' hb h) ?hstep ?hend
    case hstep =>
      clear HH
      intro i o hi ho a W hS hL hd
      have q1 : a.tmps.getD 1 undef = .pointer (some ⟨gb, 0, none⟩) := hL.2.2 1 (by decide)
      obtain ⟨c0, c1, c2, c3, c4, c5, z0, z1, z2, z3, z4, z5⟩ := Ke6_ hS.1
      clear hL hgb hs0 hlt hst
      match i, hi, ho, hd with
      | 0, _, ho, hd =>
        obtain rfl := Option.some.inj ho
        clear hd ho
        refine ⟨.pointer (some ⟨gb, 5, none⟩), W, ?_, hS, Below.refl _ _, rfl⟩
        first | (go_simp; done) | (simp only [execOp, Act.eval, q1]; go_simp; done) | (simp only [execOp, Act.eval, q1]; go_simp; rfl) 
      | 1, _, ho, hd =>
        obtain rfl := Option.some.inj ho
        have d0 : a.tmps.getD 9 undef = .pointer (some ⟨gb, 5, none⟩) := hd ⟨0, .data⟩ (by simp) rfl
        clear hd ho
        refine ⟨.int .u8 k, W, ?_, hS, Below.refl _ _, rfl⟩
        first | (go_simp; done) | (simp only [execOp, Act.eval, q1, d0]; go_simp; done) | (simp only [execOp, Act.eval, q1, d0]; go_simp; rfl) 
      | 2, _, ho, hd =>
        obtain rfl := Option.some.inj ho
        have d1 : a.tmps.getD 10 undef = .int .u8 k := hd ⟨1, .data⟩ (by simp) rfl
        clear hd ho
        refine ⟨.int .u8 (Int.tmod k 2), W, ?_, hS, Below.refl _ _, rfl⟩
        first | (go_simp; done) | (simp only [execOp, Act.eval, q1, d1]; go_simp; done) | (simp only [execOp, Act.eval, q1, d1]; go_simp; rfl) 
      | 3, _, ho, hd =>
        obtain rfl := Option.some.inj ho
        have d2 : a.tmps.getD 11 undef = .int .u8 (Int.tmod k 2) := hd ⟨2, .data⟩ (by simp) rfl
        clear hd ho
        refine ⟨.int .u8 (IntKind.u8.wrap (48 + Int.tmod k 2)), W, ?_, hS, Below.refl _ _, rfl⟩
        first | (go_simp; done) | (simp only [execOp, Act.eval, q1, d2]; go_simp; done) | (simp only [execOp, Act.eval, q1, d2]; go_simp; rfl) 
      | 4, _, ho, hd =>
        obtain rfl := Option.some.inj ho
        have d3 : a.tmps.getD 12 undef = .int .u8 (IntKind.u8.wrap (48 + Int.tmod k 2)) := hd ⟨3, .data⟩ (by simp) rfl
        clear hd ho
        refine ⟨.slice (some ⟨W.heap.size, 0, none⟩) 2 2, W.alloc (.cells #[.int .u8 98, .int .u8 (IntKind.u8.wrap (48 + Int.tmod k 2))] 5), ?_, tenementlaw08_Put_write.st_alloc hS _, tenementlaw08_Put_write.alloc_below W _, ⟨_, rfl, hS.2.2.2, blk_new _ _⟩⟩
        have g3 := (Array.getD_eq_getD_getElem? (xs := a.tmps) (i := 12) (d := undef)).symm.trans d3
        go_simp
      | 5, _, ho, hd =>
        obtain rfl := Option.some.inj ho
        obtain ⟨b, d4, hsb, hbk⟩ : tenementlaw08_Put_write.Sp gb s0 a2 k 4 (a.tmps.getD 13 undef) W := hd ⟨4, .data⟩ (by simp) rfl
        clear hd ho
        refine ⟨.string (strOfNums [98, (IntKind.u8.wrap (48 + Int.tmod k 2))]), W, ?_, hS, Below.refl _ _, rfl⟩
        have hcv := run_convert_bytes_arg (P := Try.prog) W 76 5 Try.underlying76 Try.underlying5 b 0 2 2 [98, (IntKind.u8.wrap (48 + Int.tmod k 2))] rfl (fun j hj => by
          have hj2 : j = 0 ∨ j = 1 := by omega
          rcases hj2 with rfl | rfl
          · exact (blk_cell hbk 0).trans rfl
          · exact (blk_cell hbk 1).trans rfl) 9 Try.underlying9
        first | (go_simp; done) | (simp only [execOp, Act.eval, q1, d4]; go_simp; done) | (simp only [execOp, Act.eval, q1, d4]; go_simp; rfl) 
      | 6, _, ho, hd =>
        obtain rfl := Option.some.inj ho
        clear hd ho
        refine ⟨.pointer (some ⟨gb, 5, none⟩), W, ?_, hS, Below.refl _ _, rfl⟩
        first | (go_simp; done) | (simp only [execOp, Act.eval, q1]; go_simp; done) | (simp only [execOp, Act.eval, q1]; go_simp; rfl) 
      | 7, _, ho, hd =>
        obtain rfl := Option.some.inj ho
        have d6 : a.tmps.getD 15 undef = .pointer (some ⟨gb, 5, none⟩) := hd ⟨6, .data⟩ (by simp) rfl
        clear hd ho
        refine ⟨.int .u8 k, W, ?_, hS, Below.refl _ _, rfl⟩
        first | (go_simp; done) | (simp only [execOp, Act.eval, q1, d6]; go_simp; done) | (simp only [execOp, Act.eval, q1, d6]; go_simp; rfl) 
      | 8, _, ho, hd =>
        obtain rfl := Option.some.inj ho
        have d7 : a.tmps.getD 16 undef = .int .u8 k := hd ⟨7, .data⟩ (by simp) rfl
        clear hd ho
        refine ⟨.int .u8 (IntKind.u8.wrap (Int.tdiv k 2)), W, ?_, hS, Below.refl _ _, rfl⟩
        first | (go_simp; done) | (simp only [execOp, Act.eval, q1, d7]; go_simp; done) | (simp only [execOp, Act.eval, q1, d7]; go_simp; rfl) 
      | 9, _, ho, hd =>
        obtain rfl := Option.some.inj ho
        have d8 : a.tmps.getD 17 undef = .int .u8 (IntKind.u8.wrap (Int.tdiv k 2)) := hd ⟨8, .data⟩ (by simp) rfl
        clear hd ho
        refine ⟨.int .u8 (Int.tmod (IntKind.u8.wrap (Int.tdiv k 2)) 4), W, ?_, hS, Below.refl _ _, rfl⟩
        first | (go_simp; done) | (simp only [execOp, Act.eval, q1, d8]; go_simp; done) | (simp only [execOp, Act.eval, q1, d8]; go_simp; rfl) 
      | 10, _, ho, hd =>
        obtain rfl := Option.some.inj ho
        have d9 : a.tmps.getD 18 undef = .int .u8 (Int.tmod (IntKind.u8.wrap (Int.tdiv k 2)) 4) := hd ⟨9, .data⟩ (by simp) rfl
        clear hd ho
        refine ⟨.int .u8 (IntKind.u8.wrap (97 + Int.tmod (IntKind.u8.wrap (Int.tdiv k 2)) 4)), W, ?_, hS, Below.refl _ _, rfl⟩
        first | (go_simp; done) | (simp only [execOp, Act.eval, q1, d9]; go_simp; done) | (simp only [execOp, Act.eval, q1, d9]; go_simp; rfl) 
      | 11, _, ho, hd =>
        obtain rfl := Option.some.inj ho
        have d10 : a.tmps.getD 19 undef = .int .u8 (IntKind.u8.wrap (97 + Int.tmod (IntKind.u8.wrap (Int.tdiv k 2)) 4)) := hd ⟨10, .data⟩ (by simp) rfl
        clear hd ho
        refine ⟨.slice (some ⟨W.heap.size, 0, none⟩) 1 1, W.alloc (.cells #[.int .u8 (IntKind.u8.wrap (97 + Int.tmod (IntKind.u8.wrap (Int.tdiv k 2)) 4))] 5), ?_, tenementlaw08_Put_write.st_alloc hS _, tenementlaw08_Put_write.alloc_below W _, ⟨_, rfl, hS.2.2.2, blk_new _ _⟩⟩
        have g10 := (Array.getD_eq_getD_getElem? (xs := a.tmps) (i := 19) (d := undef)).symm.trans d10
        go_simp
      | 12, _, ho, hd =>
        obtain rfl := Option.some.inj ho
        obtain ⟨b, d11, hsb, hbk⟩ : tenementlaw08_Put_write.Sp gb s0 a2 k 11 (a.tmps.getD 20 undef) W := hd ⟨11, .data⟩ (by simp) rfl
        clear hd ho
        refine ⟨.string (strOfNums [(IntKind.u8.wrap (97 + Int.tmod (IntKind.u8.wrap (Int.tdiv k 2)) 4))]), W, ?_, hS, Below.refl _ _, rfl⟩
        have hcv := run_convert_bytes_arg (P := Try.prog) W 76 5 Try.underlying76 Try.underlying5 b 0 1 1 [(IntKind.u8.wrap (97 + Int.tmod (IntKind.u8.wrap (Int.tdiv k 2)) 4))] rfl (fun j hj => by
          have hj2 : j = 0 := by omega
          rcases hj2 with rfl
          exact (blk_cell hbk 0).trans rfl) 9 Try.underlying9
        first | (go_simp; done) | (simp only [execOp, Act.eval, q1, d11]; go_simp; done) | (simp only [execOp, Act.eval, q1, d11]; go_simp; rfl) 
      | 13, _, ho, hd =>
        obtain rfl := Option.some.inj ho
        clear hd ho
        refine ⟨.pointer (some ⟨gb, 0, none⟩), W, ?_, hS, Below.refl _ _, rfl⟩
        first | (go_simp; done) | (simp only [execOp, Act.eval, q1]; go_simp; done) | (simp only [execOp, Act.eval, q1]; go_simp; rfl) 
      | 14, _, ho, hd =>
        obtain rfl := Option.some.inj ho
        have d13 : a.tmps.getD 22 undef = .pointer (some ⟨gb, 0, none⟩) := hd ⟨13, .data⟩ (by simp) rfl
        clear hd ho
        refine ⟨.pointer (some ⟨gb, 2, none⟩), W, ?_, hS, Below.refl _ _, rfl⟩
        first | (go_simp; done) | (simp only [execOp, Act.eval, q1, d13]; go_simp; done) | (simp only [execOp, Act.eval, q1, d13]; go_simp; rfl) 
      | 15, _, ho, hd =>
        obtain rfl := Option.some.inj ho
        have d14 : a.tmps.getD 23 undef = .pointer (some ⟨gb, 2, none⟩) := hd ⟨14, .data⟩ (by simp) rfl
        clear hd ho
        refine ⟨.string a2, W, ?_, hS, Below.refl _ _, rfl⟩
        first | (go_simp; done) | (simp only [execOp, Act.eval, q1, d14]; go_simp; done) | (simp only [execOp, Act.eval, q1, d14]; go_simp; rfl) 
      | 16, _, ho, hd =>
        obtain rfl := Option.some.inj ho
        clear hd ho
        refine ⟨.pointer (some ⟨gb, 0, none⟩), W, ?_, hS, Below.refl _ _, rfl⟩
        first | (go_simp; done) | (simp only [execOp, Act.eval, q1]; go_simp; done) | (simp only [execOp, Act.eval, q1]; go_simp; rfl) 
      | 17, _, ho, hd =>
        obtain rfl := Option.some.inj ho
        have d16 : a.tmps.getD 25 undef = .pointer (some ⟨gb, 0, none⟩) := hd ⟨16, .data⟩ (by simp) rfl
        clear hd ho
        refine ⟨.pointer (some ⟨gb, 2, none⟩), W, ?_, hS, Below.refl _ _, rfl⟩
        first | (go_simp; done) | (simp only [execOp, Act.eval, q1, d16]; go_simp; done) | (simp only [execOp, Act.eval, q1, d16]; go_simp; rfl) 
      | 18, _, ho, hd =>
        obtain rfl := Option.some.inj ho
        have d17 : a.tmps.getD 26 undef = .pointer (some ⟨gb, 2, none⟩) := hd ⟨17, .data⟩ (by simp) rfl
        clear hd ho
        refine ⟨.string a2, W, ?_, hS, Below.refl _ _, rfl⟩
        first | (go_simp; done) | (simp only [execOp, Act.eval, q1, d17]; go_simp; done) | (simp only [execOp, Act.eval, q1, d17]; go_simp; rfl) 
      | 19, _, ho, hd =>
        obtain rfl := Option.some.inj ho
        have d18 : a.tmps.getD 27 undef = .string a2 := hd ⟨18, .data⟩ (by simp) rfl
        clear hd ho
        refine ⟨.int .i64 (a2.size : Int), W, ?_, hS, Below.refl _ _, rfl⟩
        first | (go_simp; done) | (simp only [execOp, Act.eval, q1, d18]; go_simp; done) | (simp only [execOp, Act.eval, q1, d18]; go_simp; rfl) 
      | 20, _, ho, hd =>
        obtain rfl := Option.some.inj ho
        have d19 : a.tmps.getD 28 undef = .int .i64 (a2.size : Int) := hd ⟨19, .data⟩ (by simp) rfl
        clear hd ho
        refine ⟨.int .i64 ((min a2.size 8 : Nat) : Int), W, ?_, hS, Below.refl _ _, rfl⟩
        first | (go_simp; done) | (simp only [execOp, Act.eval, q1, d19]; go_simp; done) | (simp only [execOp, Act.eval, q1, d19]; go_simp; rfl) 
      | 21, _, ho, hd =>
        obtain rfl := Option.some.inj ho
        have d15 : a.tmps.getD 24 undef = .string a2 := hd ⟨15, .data⟩ (by simp) rfl
        have d20 : a.tmps.getD 29 undef = .int .i64 ((min a2.size 8 : Nat) : Int) := hd ⟨20, .data⟩ (by simp) rfl
        clear hd ho
        refine ⟨.string (a2.extract 0 (min a2.size 8)), W, ?_, hS, Below.refl _ _, rfl⟩
        first | (go_simp; done) | (simp only [execOp, Act.eval, q1, d15, d20]; go_simp; done) | (simp only [execOp, Act.eval, q1, d15, d20]; go_simp; rfl) 
      | 22, _, ho, hd =>
        obtain rfl := Option.some.inj ho
        clear hd ho
        refine ⟨.pointer (some ⟨gb, 5, none⟩), W, ?_, hS, Below.refl _ _, rfl⟩
        first | (go_simp; done) | (simp only [execOp, Act.eval, q1]; go_simp; done) | (simp only [execOp, Act.eval, q1]; go_simp; rfl) 
      | 23, _, ho, hd =>
        obtain rfl := Option.some.inj ho
        have d22 : a.tmps.getD 31 undef = .pointer (some ⟨gb, 5, none⟩) := hd ⟨22, .data⟩ (by simp) rfl
        clear hd ho
        refine ⟨.int .u8 k, W, ?_, hS, Below.refl _ _, rfl⟩
        first | (go_simp; done) | (simp only [execOp, Act.eval, q1, d22]; go_simp; done) | (simp only [execOp, Act.eval, q1, d22]; go_simp; rfl) 
      | 24, _, ho, hd =>
        obtain rfl := Option.some.inj ho
        have d23 : a.tmps.getD 32 undef = .int .u8 k := hd ⟨23, .data⟩ (by simp) rfl
        clear hd ho
        refine ⟨.bool (decide (224 ≤ k)), W, ?_, hS, Below.refl _ _, rfl⟩
        first | (go_simp; done) | (simp only [execOp, Act.eval, q1, d23]; go_simp; done) | (simp only [execOp, Act.eval, q1, d23]; go_simp; rfl) 
      | 25, _, ho, hd =>
        obtain rfl := Option.some.inj ho
        have d5 : a.tmps.getD 14 undef = .string (strOfNums [98, (IntKind.u8.wrap (48 + Int.tmod k 2))]) := hd ⟨5, .data⟩ (by simp) rfl
        have d12 : a.tmps.getD 21 undef = .string (strOfNums [(IntKind.u8.wrap (97 + Int.tmod (IntKind.u8.wrap (Int.tdiv k 2)) 4))]) := hd ⟨12, .data⟩ (by simp) rfl
        have d21 : a.tmps.getD 30 undef = .string (a2.extract 0 (min a2.size 8)) := hd ⟨21, .data⟩ (by simp) rfl
        have d24 : a.tmps.getD 33 undef = .bool (decide (224 ≤ k)) := hd ⟨24, .data⟩ (by simp) rfl
        clear hd ho
        refine ⟨.agg #[.string (strOfNums [98, (IntKind.u8.wrap (48 + Int.tmod k 2))]), .string (strOfNums [(IntKind.u8.wrap (97 + Int.tmod (IntKind.u8.wrap (Int.tdiv k 2)) 4))]), .string (a2.extract 0 (min a2.size 8)), .bool (decide (224 ≤ k))], W, ?_, hS, Below.refl _ _, rfl⟩
        have g5 := (Array.getD_eq_getD_getElem? (xs := a.tmps) (i := 14) (d := undef)).symm.trans d5
        have g12 := (Array.getD_eq_getD_getElem? (xs := a.tmps) (i := 21) (d := undef)).symm.trans d12
        have g21 := (Array.getD_eq_getD_getElem? (xs := a.tmps) (i := 30) (d := undef)).symm.trans d21
        have g24 := (Array.getD_eq_getD_getElem? (xs := a.tmps) (i := 33) (d := undef)).symm.trans d24
        go_simp
      | 26, _, ho, hd =>
        obtain rfl := Option.some.inj ho
        clear hd ho
        refine ⟨.pointer (some ⟨W.heap.size, 0, none⟩), W.alloc (.cells #[.string ⟨#[]⟩, .string ⟨#[]⟩, .string ⟨#[]⟩, .bool false] 23), ?_, tenementlaw08_Put_write.st_alloc hS _, tenementlaw08_Put_write.alloc_below W _, ⟨_, rfl, hS.2.2.2, blk_new _ _⟩⟩
        first | (go_simp; done) | (simp only [execOp, Act.eval, q1]; go_simp; done) | (simp only [execOp, Act.eval, q1]; go_simp; rfl) 
      | _ + 27, hi, _, _ => omega
    case hend =>
      intro a W hS hL hA
      have q0 : a.tmps.getD 0 undef = .agg #[.string a0, .string a1, .string a2, .bool a3, .bool true, .int .u8 k] := hL.2.2 0 (by decide)
      have q1 : a.tmps.getD 1 undef = .pointer (some ⟨gb, 0, none⟩) := hL.2.2 1 (by decide)
      have q2 : a.tmps.getD 2 undef = .pointer (some ⟨gb + 1, 0, none⟩) := hL.2.2 2 (by decide)
      have q4 : a.tmps.getD 4 undef = .pointer (some ⟨gb, 4, none⟩) := hL.2.2 4 (by decide)
      have q5 : a.tmps.getD 5 undef = .bool true := hL.2.2 5 (by decide)
      have q6 : a.tmps.getD 6 undef = .bool false := hL.2.2 6 (by decide)
      have q7 : a.tmps.getD 7 undef = undef := hL.2.2 7 (by decide)
      have q8 : a.tmps.getD 8 undef = undef := hL.2.2 8 (by decide)
      have q35 : a.tmps.getD 35 undef = undef := hL.2.2 35 (by decide)
      have q36 : a.tmps.getD 36 undef = undef := hL.2.2 36 (by decide)
      have q37 : a.tmps.getD 37 undef = undef := hL.2.2 37 (by decide)
      have q38 : a.tmps.getD 38 undef = undef := hL.2.2 38 (by decide)
      have q9 : a.tmps.getD 9 undef = .pointer (some ⟨gb, 5, none⟩) := hA 0 (by decide)
      have q10 : a.tmps.getD 10 undef = .int .u8 k := hA 1 (by decide)
      have q11 : a.tmps.getD 11 undef = .int .u8 (Int.tmod k 2) := hA 2 (by decide)
      have q12 : a.tmps.getD 12 undef = .int .u8 (IntKind.u8.wrap (48 + Int.tmod k 2)) := hA 3 (by decide)
      obtain ⟨b13, q13, s13, k13⟩ : tenementlaw08_Put_write.Sp gb s0 a2 k 4 (a.tmps.getD 13 undef) W := hA 4 (by decide)
      have q14 : a.tmps.getD 14 undef = .string (strOfNums [98, (IntKind.u8.wrap (48 + Int.tmod k 2))]) := hA 5 (by decide)
      have q15 : a.tmps.getD 15 undef = .pointer (some ⟨gb, 5, none⟩) := hA 6 (by decide)
      have q16 : a.tmps.getD 16 undef = .int .u8 k := hA 7 (by decide)
      have q17 : a.tmps.getD 17 undef = .int .u8 (IntKind.u8.wrap (Int.tdiv k 2)) := hA 8 (by decide)
      have q18 : a.tmps.getD 18 undef = .int .u8 (Int.tmod (IntKind.u8.wrap (Int.tdiv k 2)) 4) := hA 9 (by decide)
      have q19 : a.tmps.getD 19 undef = .int .u8 (IntKind.u8.wrap (97 + Int.tmod (IntKind.u8.wrap (Int.tdiv k 2)) 4)) := hA 10 (by decide)
      obtain ⟨b20, q20, s20, k20⟩ : tenementlaw08_Put_write.Sp gb s0 a2 k 11 (a.tmps.getD 20 undef) W := hA 11 (by decide)
      have q21 : a.tmps.getD 21 undef = .string (strOfNums [(IntKind.u8.wrap (97 + Int.tmod (IntKind.u8.wrap (Int.tdiv k 2)) 4))]) := hA 12 (by decide)
      have q22 : a.tmps.getD 22 undef = .pointer (some ⟨gb, 0, none⟩) := hA 13 (by decide)
      have q23 : a.tmps.getD 23 undef = .pointer (some ⟨gb, 2, none⟩) := hA 14 (by decide)
      have q24 : a.tmps.getD 24 undef = .string a2 := hA 15 (by decide)
      have q25 : a.tmps.getD 25 undef = .pointer (some ⟨gb, 0, none⟩) := hA 16 (by decide)
      have q26 : a.tmps.getD 26 undef = .pointer (some ⟨gb, 2, none⟩) := hA 17 (by decide)
      have q27 : a.tmps.getD 27 undef = .string a2 := hA 18 (by decide)
      have q28 : a.tmps.getD 28 undef = .int .i64 (a2.size : Int) := hA 19 (by decide)
      have q29 : a.tmps.getD 29 undef = .int .i64 ((min a2.size 8 : Nat) : Int) := hA 20 (by decide)
      have q30 : a.tmps.getD 30 undef = .string (a2.extract 0 (min a2.size 8)) := hA 21 (by decide)
      have q31 : a.tmps.getD 31 undef = .pointer (some ⟨gb, 5, none⟩) := hA 22 (by decide)
      have q32 : a.tmps.getD 32 undef = .int .u8 k := hA 23 (by decide)
      have q33 : a.tmps.getD 33 undef = .bool (decide (224 ≤ k)) := hA 24 (by decide)
      have q34 : a.tmps.getD 34 undef = .agg #[.string (strOfNums [98, (IntKind.u8.wrap (48 + Int.tmod k 2))]), .string (strOfNums [(IntKind.u8.wrap (97 + Int.tmod (IntKind.u8.wrap (Int.tdiv k 2)) 4))]), .string (a2.extract 0 (min a2.size 8)), .bool (decide (224 ≤ k))] := hA 25 (by decide)
      obtain ⟨b3, q3, s3, k3⟩ : tenementlaw08_Put_write.Sp gb s0 a2 k 26 (a.tmps.getD 3 undef) W := hA 26 (by decide)
      have ht : a.tmps = #[.agg #[.string a0, .string a1, .string a2, .bool a3, .bool true, .int .u8 k], .pointer (some ⟨gb, 0, none⟩), .pointer (some ⟨gb + 1, 0, none⟩), .pointer (some ⟨b3, 0, none⟩), .pointer (some ⟨gb, 4, none⟩), .bool true, .bool false, undef, undef, .pointer (some ⟨gb, 5, none⟩), .int .u8 k, .int .u8 (Int.tmod k 2), .int .u8 (IntKind.u8.wrap (48 + Int.tmod k 2)), .slice (some ⟨b13, 0, none⟩) 2 2, .string (strOfNums [98, (IntKind.u8.wrap (48 + Int.tmod k 2))]), .pointer (some ⟨gb, 5, none⟩), .int .u8 k, .int .u8 (IntKind.u8.wrap (Int.tdiv k 2)), .int .u8 (Int.tmod (IntKind.u8.wrap (Int.tdiv k 2)) 4), .int .u8 (IntKind.u8.wrap (97 + Int.tmod (IntKind.u8.wrap (Int.tdiv k 2)) 4)), .slice (some ⟨b20, 0, none⟩) 1 1, .string (strOfNums [(IntKind.u8.wrap (97 + Int.tmod (IntKind.u8.wrap (Int.tdiv k 2)) 4))]), .pointer (some ⟨gb, 0, none⟩), .pointer (some ⟨gb, 2, none⟩), .string a2, .pointer (some ⟨gb, 0, none⟩), .pointer (some ⟨gb, 2, none⟩), .string a2, .int .i64 (a2.size : Int), .int .i64 ((min a2.size 8 : Nat) : Int), .string (a2.extract 0 (min a2.size 8)), .pointer (some ⟨gb, 5, none⟩), .int .u8 k, .bool (decide (224 ≤ k)), .agg #[.string (strOfNums [98, (IntKind.u8.wrap (48 + Int.tmod k 2))]), .string (strOfNums [(IntKind.u8.wrap (97 + Int.tmod (IntKind.u8.wrap (Int.tdiv k 2)) 4))]), .string (a2.extract 0 (min a2.size 8)), .bool (decide (224 ≤ k))], undef, undef, undef, undef] := by
        rw [Go.Proofs.Ytoogchgoiciggaa.Inv.tmps_eq a 39 hL.2.1, show List.range 39 = [0, 1, 2, 3, 4, 5, 6, 7, 8, 9, 10, 11, 12, 13, 14, 15, 16, 17, 18, 19, 20, 21, 22, 23, 24, 25, 26, 27, 28, 29, 30, 31, 32, 33, 34, 35, 36, 37, 38] from rfl]
        simp only [List.map_cons, List.map_nil, q0, q1, q2, q3, q4, q5, q6, q7, q8, q9, q10, q11, q12, q13, q14, q15, q16, q17, q18, q19, q20, q21, q22, q23, q24, q25, q26, q27, q28, q29, q30, q31, q32, q33, q34, q35, q36, q37, q38]
      clear q0 q1 q2 q3 q4 q5 q6 q7 q8 q9 q10 q11 q12 q13 q14 q15 q16 q17 q18 q19 q20 q21 q22 q23 q24 q25 q26 q27 q28 q29 q30 q31 q32 q33 q34 q35 q36 q37 q38 k13 k20 s13 s20
      obtain ⟨tm, df⟩ := a
      obtain rfl : df = [] := hL.1
      obtain rfl : tm = _ := ht
      have nb : gb + 1 ≠ b3 := by omega
      have gb3 : w.heap.size ≤ b3 := by omega
      have BK := blk_put (blk_put (blk_put (blk_put k3 0 (.string (strOfNums [98, (IntKind.u8.wrap (48 + Int.tmod k 2))])) (cs' := #[.string (strOfNums [98, (IntKind.u8.wrap (48 + Int.tmod k 2))]), .string ⟨#[]⟩, .string ⟨#[]⟩, .bool false]) rfl) 1 (.string (strOfNums [(IntKind.u8.wrap (97 + Int.tmod (IntKind.u8.wrap (Int.tdiv k 2)) 4))])) (cs' := #[.string (strOfNums [98, (IntKind.u8.wrap (48 + Int.tmod k 2))]), .string (strOfNums [(IntKind.u8.wrap (97 + Int.tmod (IntKind.u8.wrap (Int.tdiv k 2)) 4))]), .string ⟨#[]⟩, .bool false]) rfl) 2 (.string (a2.extract 0 (min a2.size 8))) (cs' := #[.string (strOfNums [98, (IntKind.u8.wrap (48 + Int.tmod k 2))]), .string (strOfNums [(IntKind.u8.wrap (97 + Int.tmod (IntKind.u8.wrap (Int.tdiv k 2)) 4))]), .string (a2.extract 0 (min a2.size 8)), .bool false]) rfl) 3 (.bool (decide (224 ≤ k))) (cs' := #[.string (strOfNums [98, (IntKind.u8.wrap (48 + Int.tmod k 2))]), .string (strOfNums [(IntKind.u8.wrap (97 + Int.tmod (IntKind.u8.wrap (Int.tdiv k 2)) 4))]), .string (a2.extract 0 (min a2.size 8)), .bool (decide (224 ≤ k))]) rfl
      have BR := blk_far (blk_far (blk_far (blk_far (hS.2.1) (p := ⟨b3, 0, none⟩) nb (.string (strOfNums [98, (IntKind.u8.wrap (48 + Int.tmod k 2))]))) (p := ⟨b3, 1, none⟩) nb (.string (strOfNums [(IntKind.u8.wrap (97 + Int.tmod (IntKind.u8.wrap (Int.tdiv k 2)) 4))]))) (p := ⟨b3, 2, none⟩) nb (.string (a2.extract 0 (min a2.size 8)))) (p := ⟨b3, 3, none⟩) nb (.bool (decide (224 ≤ k)))
      have HB1 := Aside0.mk (below_set (j := 3) (v := .bool (decide (224 ≤ k))) (below_set (j := 2) (v := .string (a2.extract 0 (min a2.size 8))) (below_set (j := 1) (v := .string (strOfNums [(IntKind.u8.wrap (97 + Int.tmod (IntKind.u8.wrap (Int.tdiv k 2)) 4))])) (below_set (j := 0) (v := .string (strOfNums [98, (IntKind.u8.wrap (48 + Int.tmod k 2))])) (hS.2.2.1) gb3) gb3) gb3) gb3)
      obtain ⟨x0, x1, x2, x3, z0, z1, z2, z3⟩ := Ke4_ k3
      clear hL hA hst HB
      refine tenementlaw08_Put_write.op_some (i := 27) rfl rfl ?_
      unfold Oper.wp
      go_simp
      clear x0 x1 x2 x3 z0 z1 z2 z3 k3 hS
      subst hgb
      generalize ((((W.setCell ⟨b3, 0, none⟩ (.string (strOfNums [98, (IntKind.u8.wrap (48 + Int.tmod k 2))]))).setCell ⟨b3, 1, none⟩ (.string (strOfNums [(IntKind.u8.wrap (97 + Int.tmod (IntKind.u8.wrap (Int.tdiv k 2)) 4))]))).setCell ⟨b3, 2, none⟩ (.string (a2.extract 0 (min a2.size 8)))).setCell ⟨b3, 3, none⟩ (.bool (decide (224 ≤ k)))) = W2 at *
      clear W hs0 s3 hmm m0 m1
      obtain ⟨x0, x1, x2, x3, z0, z1, z2, z3⟩ := Ke4_ BK
      obtain ⟨y0, y1, y2, y3, t0, t1, t2, t3⟩ := Ke4_ BR
      have HH' := HH.out
      clear HH
      generalize (strOfNums [98, (IntKind.u8.wrap (48 + Int.tmod k 2))]) = T1 at *
      generalize (strOfNums [(IntKind.u8.wrap (97 + Int.tmod (IntKind.u8.wrap (Int.tdiv k 2)) 4))]) = T2 at *
      generalize (a2.extract 0 (min a2.size 8)) = T3 at *
      by_cases c6 : 224 ≤ k
      · have c6b : decide (224 ≤ k) = true := decide_eq_true c6
        rw [if_pos c6] at HH'
        simp only [Option.some.injEq, Prod.mk.injEq] at HH'
        obtain ⟨rfl, rfl, rfl, rfl⟩ := HH'
        go_wp2
        have BF := blk_put (blk_put (blk_put (blk_put (blk_far BR (p := ⟨b3, 2, none⟩) nb (.string ⟨#[]⟩)) 0 (.string T1) (cs' := #[.string T1, .string ⟨#[]⟩, .string ⟨#[]⟩, .bool false]) rfl) 1 (.string T2) (cs' := #[.string T1, .string T2, .string ⟨#[]⟩, .bool false]) rfl) 2 (.string ⟨#[]⟩) (cs' := #[.string T1, .string T2, .string ⟨#[]⟩, .bool false]) rfl) 3 (.bool true) (cs' := #[.string T1, .string T2, .string ⟨#[]⟩, .bool true]) rfl
        have HF := below_set (j := 3) (v := .bool true) (below_set (j := 2) (v := .string ⟨#[]⟩) (below_set (j := 1) (v := .string T2) (below_set (j := 0) (v := .string T1) (below_set (j := 2) (v := .string ⟨#[]⟩) HB1.out gb3) (show w.heap.size ≤ w.heap.size + 1 by omega)) (show w.heap.size ≤ w.heap.size + 1 by omega)) (show w.heap.size ≤ w.heap.size + 1 by omega)) (show w.heap.size ≤ w.heap.size + 1 by omega)
        obtain ⟨f0, f1, f2, f3⟩ := Kc4_ BF
        clear x0 x1 x2 x3 y0 y1 y2 y3 z0 z1 z2 z3 t0 t1 t2 t3 BR BK BF
        refine bodyPost_ret (v := .agg #[.string T1, .string T2, .string ⟨#[]⟩, .bool true]) (by simp [results, Try.results12, go_sem, hu23, f0, f1, f2, f3]) rfl ⟨rfl, HF⟩
      · have c6b : decide (224 ≤ k) = false := decide_eq_false c6
        rw [if_neg c6] at HH'
        simp only [Option.some.injEq, Prod.mk.injEq] at HH'
        obtain ⟨rfl, rfl, rfl, rfl⟩ := HH'
        go_wp2
        have BF := blk_put (blk_put (blk_put (blk_put (BR) 0 (.string T1) (cs' := #[.string T1, .string ⟨#[]⟩, .string ⟨#[]⟩, .bool false]) rfl) 1 (.string T2) (cs' := #[.string T1, .string T2, .string ⟨#[]⟩, .bool false]) rfl) 2 (.string T3) (cs' := #[.string T1, .string T2, .string T3, .bool false]) rfl) 3 (.bool false) (cs' := #[.string T1, .string T2, .string T3, .bool false]) rfl
        have HF := below_set (j := 3) (v := .bool false) (below_set (j := 2) (v := .string T3) (below_set (j := 1) (v := .string T2) (below_set (j := 0) (v := .string T1) (HB1.out) (show w.heap.size ≤ w.heap.size + 1 by omega)) (show w.heap.size ≤ w.heap.size + 1 by omega)) (show w.heap.size ≤ w.heap.size + 1 by omega)) (show w.heap.size ≤ w.heap.size + 1 by omega)
        obtain ⟨f0, f1, f2, f3⟩ := Kc4_ BF
        clear x0 x1 x2 x3 y0 y1 y2 y3 z0 z1 z2 z3 t0 t1 t2 t3 BR BK BF
        refine bodyPost_ret (v := .agg #[.string T1, .string T2, .string T3, .bool false]) (by simp [results, Try.results12, go_sem, hu23, f0, f1, f2, f3]) rfl ⟨rfl, HF⟩
/-! ### tenementlaw08_refWrites: function 13 -/
def tenementlaw08_refWrites.l0 : Nat → List (S23) → List (S38) → Int → Option ((List (S38)))
  | 0, _, _, _ => none
  | k + 1, x0, x3, x4 => if x4 < (x0.length : Int) then (if 0 ≤ x4 then (if x3.length < 2513169434916 then (tenementlaw08_refWrites.l0 k x0 (x3 ++ [(⟨(rd_T23 x0 x4).f0, (rd_T23 x0 x4).f1, (rd_T23 x0 x4).f2, (rd_T23 x0 x4).f3⟩ : S38)]) (wrap64 (x4 + 1))) else (none)) else (none)) else (some x3)
def tenementlaw08_refWrites.f (k : Nat) (l0 : List (S23)) : Option ((List (S38))) := tenementlaw08_refWrites.l0 k l0 ([] : List (S38)) 0
theorem tenementlaw08_refWrites.mono_l : ∀ k, (∀ y0 y1 y2, LeO (tenementlaw08_refWrites.l0 k y0 y1 y2) (tenementlaw08_refWrites.l0 (k + 1) y0 y1 y2))
  | 0 => fun _ _ _ r h => by simp [tenementlaw08_refWrites.l0] at h
  | k + 1 => by
    have ih0 := tenementlaw08_refWrites.mono_l k
    · intro y0 y1 y2
      unfold tenementlaw08_refWrites.l0
      repeat' first
      | (with_reducible exact ih0 _ _ _)
      | (with_reducible exact LeO.refl _)
      | (with_reducible exact LeO.none _)
      | (with_reducible refine LeO.ite ?_ ?_)
      | (with_reducible refine LeO.bind ?_ (fun _ => ?_))
      | exact ih0 _ _ _
      | exact LeO.none _
      | refine LeO.ite ?_ ?_
      | refine LeO.bind ?_ (fun _ => ?_)
theorem tenementlaw08_refWrites.mono : ∀ a0 k, LeO (tenementlaw08_refWrites.f k a0) (tenementlaw08_refWrites.f (k + 1) a0) := by
  intro a0 k
  have ih0 := tenementlaw08_refWrites.mono_l k
  unfold tenementlaw08_refWrites.f
  repeat' first
      | (with_reducible exact ih0 _ _ _)
      | (with_reducible exact LeO.refl _)
      | (with_reducible exact LeO.none _)
      | (with_reducible refine LeO.ite ?_ ?_)
      | (with_reducible refine LeO.bind ?_ (fun _ => ?_))
      | exact ih0 _ _ _
      | exact LeO.none _
      | refine LeO.ite ?_ ?_
      | refine LeO.bind ?_ (fun _ => ?_)
def tenementlaw08_refWrites.T5 : Bool × List (List Nat × List Nat) := (true, [([], []), ([], []), ([], []), ([1, 2], [1, 2]), ([3], [3]), ([4], [4]), ([], []), ([], []), ([6, 7], [6, 7]), ([8], [8]), ([9], [9]), ([], []), ([], []), ([11, 12], [11, 12]), ([13], [13]), ([14], [14]), ([], []), ([], []), ([16, 17], [16, 17]), ([18], [18]), ([19], [19]), ([5, 10, 15, 20], [5, 10, 15, 20]), ([21], [21]), ([0, 22], [0, 22]), ([23, 23, 0, 1, 2, 3, 4, 5, 6, 7, 8, 9, 10, 11, 12, 13, 14, 15, 16, 17, 18, 19, 20, 21, 22, 23], [0, 23])])
def tenementlaw08_refWrites.B5 : List Nat := [0, 0, 0, 6, 14, 30, 0, 0, 192, 448, 960, 0, 0, 6144, 14336, 30720, 0, 0, 196608, 458752, 983040, 2097150, 4194302, 8388607, 16777215]
theorem tenementlaw08_refWrites.tab5 : rtab .any (opsOf Try.f13 5) = tenementlaw08_refWrites.T5 := by kernel_rfl
theorem tenementlaw08_refWrites.bits5 : waitsOk tenementlaw08_refWrites.T5.2 tenementlaw08_refWrites.B5 = true := by kernel_rfl
set_option maxHeartbeats 8000000 in
set_option maxRecDepth 100000 in
theorem tenementlaw08_refWrites.calls (k : Nat) (A0 : Option Addr) (c0 : Nat) (l0 : List (S23)) (r : List (S38)) (w : World) (hr0 : Kd.C k23 w A0 l0.length l0) (hc0 : l0.length ≤ c0) (h : tenementlaw08_refWrites.f k l0 = some r) :
    Calls Try.prog 13 #[.slice A0 l0.length c0] w fun e w' => ∃ v0_ : Value, e = .returned (v0_) ∧ Kd.R k38 38 w' w.heap.size (fun _ => True) v0_ r ∧ Below w.heap.size w w' := by
  have hu38 := Try.underlying38
  have HR0 := Aside0.mk hr0
  have HC0 := Aside0.mk hc0
  clear hr0 hc0
  have HB := Aside0.mk (Below.refl w.heap.size w)
  have H : (tenementlaw08_refWrites.l0 k l0 ([] : List (S38)) 0) = some r := h
  clear h
  have H' := Aside0.mk H
  clear H
  go_enter Try.func13, Try.ntmps13
  go_wp2
  go_loopg [3, 4] k (fun kq v3 v4 w' => ∃ (x3_1 : List (S38)) (x4_1 : Int), v4 = .int .i64 x4_1 ∧ Aside0 (tenementlaw08_refWrites.l0 kq l0 x3_1 x4_1 = some r) ∧ Aside0 (kq ≤ k) ∧ Aside0 (Kd.R k38 38 w' w.heap.size (fun _ => True) v3 x3_1) ∧ Aside0 (Below w.heap.size w w'))
  case atStart => exact ⟨(([] : List (S38))), (0), (by first | rfl | (simp; done) | (simp [*]; done)), H', ⟨Nat.le_refl _⟩, ⟨by first | exact Kd.R_nil _ _ _ _ _ | exact Kd.N_nil _ _ _ _ _ | exact Kd.V_nil _ _ _ _ _ | exact Kd.Q_nil _ _ _ _ _ | exact Kd.S_nil _ _ _ _ _⟩, ⟨Ky_ HB⟩⟩
  case round =>
    clear H'
    try clear c1
    obtain ⟨x3_1, x4_1, rfl, HA, HK1, HO_3, HB⟩ := hrel
    cases gk with
    | zero => exact absurd HA.out (by simp [tenementlaw08_refWrites.l0])
    | succ k1 =>
      have H := HA.out
      clear HA
      simp only [tenementlaw08_refWrites.l0] at H
      by_cases c2 : x4_1 < (l0.length : Int)
      rotate_left
      · rw [if_neg c2] at H
        have c2b0 : decide (x4_1 < (l0.length : Int)) = false := decide_eq_false c2
        clear c2
        obtain rfl := Option.some.inj H
        go_wp2
        go_ret
        exact ⟨_, by first | rfl | (simp [errW_none, errW_some] <;> rfl) | (simp [*, errW_none, errW_some] <;> rfl), by (with_reducible repeat (first | apply Kd.R_alloc | apply Kd.R_drewN | apply Kd.R_drew)); exact HO_3.out, Ky_ HB⟩
      rw [if_pos c2] at H
      have c2b0 : decide (x4_1 < (l0.length : Int)) = true := decide_eq_true c2
      clear c2
      by_cases c3 : 0 ≤ x4_1
      rotate_left
      · rw [if_neg c3] at H
        exact absurd H (by simp)
      rw [if_pos c3] at H
      have c3b0 : decide (0 ≤ x4_1) = true := decide_eq_true c3
      clear c3
      by_cases c4 : x3_1.length < 2513169434916
      rotate_left
      · rw [if_neg c4] at H
        exact absurd H (by simp)
      rw [if_pos c4] at H
      have LMc4 := Aside0.mk c4
      clear c4
      obtain ⟨y254, hy254⟩ : ∃ y_ : List (S38), y_ = (x3_1 ++ [(⟨(rd_T23 l0 x4_1).f0, (rd_T23 l0 x4_1).f1, (rd_T23 l0 x4_1).f2, (rd_T23 l0 x4_1).f3⟩ : S38)]) := ⟨_, rfl⟩
      replace H : (tenementlaw08_refWrites.l0 k1 l0 y254 (wrap64 (x4_1 + 1))) = some r := by first | (rw [hy254]; with_reducible exact H) | (have H2_ := (Option.bind_some _ _).symm.trans H; rw [hy254]; with_reducible exact H2_) | (have H2_ := (Option.bind_some _ _).symm.trans H; with_reducible exact H2_) | with_reducible exact H | (rw [hy254]; exact H) | exact H
      have Ny254 := Aside0.mk hy254
      clear hy254
      have H' := Aside0.mk H
      clear H
      try go_wp2
      replace HO_3 := Aside0.mk (Kd.R_drew HO_3.out)
      replace HB := Aside0.mk (below_drew1 HB.out)
      have p250 : 0 ≤ (x4_1 : Int) := of_decide_eq_true (by first | (with_reducible assumption) | assumption)
      have q250 : x4_1 < (l0.length : Int) := of_decide_eq_true (by first | (with_reducible assumption) | assumption)
      obtain ⟨ad250, e250, hx250_0, hx250_1, hx250_2, hx250_3⟩ := at_T23 HR0.out x4_1 p250 q250
      have hw250_3 := hx250_3
      have hw250_2 := hx250_2
      have hw250_1 := hx250_1
      have hw250_0 := hx250_0
      cases e250
      replace hx250_0 := (HB.out.cell (World.block_lt_of_cell? w _ hx250_0)).trans hx250_0
      replace hx250_1 := (HB.out.cell (World.block_lt_of_cell? w _ hx250_1)).trans hx250_1
      replace hx250_2 := (HB.out.cell (World.block_lt_of_cell? w _ hx250_2)).trans hx250_2
      replace hx250_3 := (HB.out.cell (World.block_lt_of_cell? w _ hx250_3)).trans hx250_3
      replace p250 := eq_true p250
      replace q250 := eq_true q250
      have p251 : 0 ≤ (x4_1 : Int) := of_decide_eq_true (by first | (with_reducible assumption) | assumption)
      have q251 : x4_1 < (l0.length : Int) := of_decide_eq_true (by first | (with_reducible assumption) | assumption)
      obtain ⟨ad251, e251, hx251_0, hx251_1, hx251_2, hx251_3⟩ := at_T23 HR0.out x4_1 p251 q251
      have hw251_3 := hx251_3
      have hw251_2 := hx251_2
      have hw251_1 := hx251_1
      have hw251_0 := hx251_0
      obtain rfl : ad250 = ad251 := (by injection e251)
      replace hx251_0 := (HB.out.cell (World.block_lt_of_cell? w _ hx251_0)).trans hx251_0
      replace hx251_1 := (HB.out.cell (World.block_lt_of_cell? w _ hx251_1)).trans hx251_1
      replace hx251_2 := (HB.out.cell (World.block_lt_of_cell? w _ hx251_2)).trans hx251_2
      replace hx251_3 := (HB.out.cell (World.block_lt_of_cell? w _ hx251_3)).trans hx251_3
      replace p251 := eq_true p251
      replace q251 := eq_true q251
      have p252 : 0 ≤ (x4_1 : Int) := of_decide_eq_true (by first | (with_reducible assumption) | assumption)
      have q252 : x4_1 < (l0.length : Int) := of_decide_eq_true (by first | (with_reducible assumption) | assumption)
      obtain ⟨ad252, e252, hx252_0, hx252_1, hx252_2, hx252_3⟩ := at_T23 HR0.out x4_1 p252 q252
      have hw252_3 := hx252_3
      have hw252_2 := hx252_2
      have hw252_1 := hx252_1
      have hw252_0 := hx252_0
      obtain rfl : ad250 = ad252 := (by injection e252)
      replace hx252_0 := (HB.out.cell (World.block_lt_of_cell? w _ hx252_0)).trans hx252_0
      replace hx252_1 := (HB.out.cell (World.block_lt_of_cell? w _ hx252_1)).trans hx252_1
      replace hx252_2 := (HB.out.cell (World.block_lt_of_cell? w _ hx252_2)).trans hx252_2
      replace hx252_3 := (HB.out.cell (World.block_lt_of_cell? w _ hx252_3)).trans hx252_3
      replace p252 := eq_true p252
      replace q252 := eq_true q252
      have p253 : 0 ≤ (x4_1 : Int) := of_decide_eq_true (by first | (with_reducible assumption) | assumption)
      have q253 : x4_1 < (l0.length : Int) := of_decide_eq_true (by first | (with_reducible assumption) | assumption)
      obtain ⟨ad253, e253, hx253_0, hx253_1, hx253_2, hx253_3⟩ := at_T23 HR0.out x4_1 p253 q253
      have hw253_3 := hx253_3
      have hw253_2 := hx253_2
      have hw253_1 := hx253_1
      have hw253_0 := hx253_0
      obtain rfl : ad250 = ad253 := (by injection e253)
      replace hx253_0 := (HB.out.cell (World.block_lt_of_cell? w _ hx253_0)).trans hx253_0
      replace hx253_1 := (HB.out.cell (World.block_lt_of_cell? w _ hx253_1)).trans hx253_1
      replace hx253_2 := (HB.out.cell (World.block_lt_of_cell? w _ hx253_2)).trans hx253_2
      replace hx253_3 := (HB.out.cell (World.block_lt_of_cell? w _ hx253_3)).trans hx253_3
      replace p253 := eq_true p253
      replace q253 := eq_true q253
      refine start_ (n := 25) (S := fun w' => w'.cell? (ad250.add ((x4_1).toNat * 4)) = some (.string ((rd_T23 l0 x4_1).f0)) ∧ w'.cell? ⟨(ad250.add ((x4_1).toNat * 4)).block, (ad250.add ((x4_1).toNat * 4)).off + 1, none⟩ = some (.string ((rd_T23 l0 x4_1).f1)) ∧ w'.cell? ⟨(ad250.add ((x4_1).toNat * 4)).block, (ad250.add ((x4_1).toNat * 4)).off + 2, none⟩ = some (.string ((rd_T23 l0 x4_1).f2)) ∧ w'.cell? ⟨(ad250.add ((x4_1).toNat * 4)).block, (ad250.add ((x4_1).toNat * 4)).off + 3, none⟩ = some (.bool ((rd_T23 l0 x4_1).f3)) ∧ w'.cell? (ad250.add ((x4_1).toNat * 4)) = some (.string ((rd_T23 l0 x4_1).f0)) ∧ w'.cell? ⟨(ad250.add ((x4_1).toNat * 4)).block, (ad250.add ((x4_1).toNat * 4)).off + 1, none⟩ = some (.string ((rd_T23 l0 x4_1).f1)) ∧ w'.cell? ⟨(ad250.add ((x4_1).toNat * 4)).block, (ad250.add ((x4_1).toNat * 4)).off + 2, none⟩ = some (.string ((rd_T23 l0 x4_1).f2)) ∧ w'.cell? ⟨(ad250.add ((x4_1).toNat * 4)).block, (ad250.add ((x4_1).toNat * 4)).off + 3, none⟩ = some (.bool ((rd_T23 l0 x4_1).f3)) ∧ w'.cell? (ad250.add ((x4_1).toNat * 4)) = some (.string ((rd_T23 l0 x4_1).f0)) ∧ w'.cell? ⟨(ad250.add ((x4_1).toNat * 4)).block, (ad250.add ((x4_1).toNat * 4)).off + 1, none⟩ = some (.string ((rd_T23 l0 x4_1).f1)) ∧ w'.cell? ⟨(ad250.add ((x4_1).toNat * 4)).block, (ad250.add ((x4_1).toNat * 4)).off + 2, none⟩ = some (.string ((rd_T23 l0 x4_1).f2)) ∧ w'.cell? ⟨(ad250.add ((x4_1).toNat * 4)).block, (ad250.add ((x4_1).toNat * 4)).off + 3, none⟩ = some (.bool ((rd_T23 l0 x4_1).f3)) ∧ w'.cell? (ad250.add ((x4_1).toNat * 4)) = some (.string ((rd_T23 l0 x4_1).f0)) ∧ w'.cell? ⟨(ad250.add ((x4_1).toNat * 4)).block, (ad250.add ((x4_1).toNat * 4)).off + 1, none⟩ = some (.string ((rd_T23 l0 x4_1).f1)) ∧ w'.cell? ⟨(ad250.add ((x4_1).toNat * 4)).block, (ad250.add ((x4_1).toNat * 4)).off + 2, none⟩ = some (.string ((rd_T23 l0 x4_1).f2)) ∧ w'.cell? ⟨(ad250.add ((x4_1).toNat * 4)).block, (ad250.add ((x4_1).toNat * 4)).off + 3, none⟩ = some (.bool ((rd_T23 l0 x4_1).f3))) (ds := []) #[false, false, false, false, false, false, false, false, false, false, false, false, false, false, false, false, false, false, false, false, false, false, false, false, false] (by kernel_rfl) rfl rfl ⟨((HB.out.cell (World.block_lt_of_cell? w _ hw250_0)).trans hw250_0), ((HB.out.cell (World.block_lt_of_cell? w _ hw250_1)).trans hw250_1), ((HB.out.cell (World.block_lt_of_cell? w _ hw250_2)).trans hw250_2), ((HB.out.cell (World.block_lt_of_cell? w _ hw250_3)).trans hw250_3), ((HB.out.cell (World.block_lt_of_cell? w _ hw251_0)).trans hw251_0), ((HB.out.cell (World.block_lt_of_cell? w _ hw251_1)).trans hw251_1), ((HB.out.cell (World.block_lt_of_cell? w _ hw251_2)).trans hw251_2), ((HB.out.cell (World.block_lt_of_cell? w _ hw251_3)).trans hw251_3), ((HB.out.cell (World.block_lt_of_cell? w _ hw252_0)).trans hw252_0), ((HB.out.cell (World.block_lt_of_cell? w _ hw252_1)).trans hw252_1), ((HB.out.cell (World.block_lt_of_cell? w _ hw252_2)).trans hw252_2), ((HB.out.cell (World.block_lt_of_cell? w _ hw252_3)).trans hw252_3), ((HB.out.cell (World.block_lt_of_cell? w _ hw253_0)).trans hw253_0), ((HB.out.cell (World.block_lt_of_cell? w _ hw253_1)).trans hw253_1), ((HB.out.cell (World.block_lt_of_cell? w _ hw253_2)).trans hw253_2), ((HB.out.cell (World.block_lt_of_cell? w _ hw253_3)).trans hw253_3)⟩ (fun hHeld => ?_); refine with_tabW tenementlaw08_refWrites.tab5 tenementlaw08_refWrites.bits5 (fun HT_ HW_ => ?_)
      generalize wr.drew = w5 at HO_3 HB hx250_0 hx250_1 hx250_2 hx250_3 hx251_0 hx251_1 hx251_2 hx251_3 hx252_0 hx252_1 hx252_2 hx252_3 hx253_0 hx253_1 hx253_2 hx253_3 hHeld ⊢
      refine pure_ (i := 0) (N := some 11) (v := ?_) (a' := ?_) #[true, false, false, false, false, false, false, false, false, false, false, false, false, false, false, false, false, false, false, false, false, false, false, false, false] rfl rfl (any_of HT_.out (by kernel_rfl)) (fun _ _ _ h => h) (Or.inl ⟨by rfl, ?_⟩) ?_ ?_
      rotate_left
      · intro w'
        go_simp
        with_reducible rfl
      rotate_left
      · simp only [Act.put, List.setIfInBounds_toArray, List.set_cons_zero, List.set_cons_succ, i64_w, i32_w]
        rfl
      refine pure_ (i := 1) (N := some 12) (v := ?_) (a' := ?_) #[true, true, false, false, false, false, false, false, false, false, false, false, false, false, false, false, false, false, false, false, false, false, false, false, false] rfl rfl (any_of HT_.out (by kernel_rfl)) (fun _ _ _ h => h) (Or.inl ⟨by rfl, ?_⟩) ?_ ?_
      rotate_left
      · intro w'
        go_simp
        with_reducible rfl
      rotate_left
      · simp only [Act.put, List.setIfInBounds_toArray, List.set_cons_zero, List.set_cons_succ, i64_w, i32_w]
        rfl
      refine pure_ (i := 2) (N := some 13) (v := ?_) (a' := ?_) #[true, true, true, false, false, false, false, false, false, false, false, false, false, false, false, false, false, false, false, false, false, false, false, false, false] rfl rfl (any_of HT_.out (by kernel_rfl)) (fun _ _ _ h => h) (Or.inl ⟨by rfl, ?_⟩) ?_ ?_
      rotate_left
      · intro w'
        go_simp
        with_reducible rfl
      rotate_left
      · simp only [Act.put, List.setIfInBounds_toArray, List.set_cons_zero, List.set_cons_succ, i64_w, i32_w]
        rfl
      refine pure_ (i := 3) (N := some 14) (v := ?_) (a' := ?_) #[true, true, true, true, false, false, false, false, false, false, false, false, false, false, false, false, false, false, false, false, false, false, false, false, false] rfl rfl (any_of HT_.out (by kernel_rfl)) (fun _ _ _ h => h) (Or.inl ⟨by rfl, ?_⟩) ?_ ?_
      rotate_left
      · intro w'
        go_simp
        with_reducible rfl
      rotate_left
      · simp only [Act.put, List.setIfInBounds_toArray, List.set_cons_zero, List.set_cons_succ, i64_w, i32_w]
        rfl
      refine pure_ (i := 4) (N := some 15) (v := ?_) (a' := ?_) #[true, true, true, true, true, false, false, false, false, false, false, false, false, false, false, false, false, false, false, false, false, false, false, false, false] rfl rfl (any_of HT_.out (by kernel_rfl)) (fun _ _ _ h => h) (Or.inl ⟨by rfl, ?_⟩) ?_ ?_
      rotate_left
      · intro w'
        go_simp
        with_reducible rfl
      rotate_left
      · simp only [Act.put, List.setIfInBounds_toArray, List.set_cons_zero, List.set_cons_succ, i64_w, i32_w]
        rfl
      refine pure_ (i := 6) (N := some 17) (v := ?_) (a' := ?_) #[true, true, true, true, true, false, true, false, false, false, false, false, false, false, false, false, false, false, false, false, false, false, false, false, false] rfl rfl (any_of HT_.out (by kernel_rfl)) (fun _ _ _ h => h) (Or.inl ⟨by rfl, ?_⟩) ?_ ?_
      rotate_left
      · intro w'
        go_simp
        with_reducible rfl
      rotate_left
      · simp only [Act.put, List.setIfInBounds_toArray, List.set_cons_zero, List.set_cons_succ, i64_w, i32_w]
        rfl
      refine pure_ (i := 7) (N := some 18) (v := ?_) (a' := ?_) #[true, true, true, true, true, false, true, true, false, false, false, false, false, false, false, false, false, false, false, false, false, false, false, false, false] rfl rfl (any_of HT_.out (by kernel_rfl)) (fun _ _ _ h => h) (Or.inl ⟨by rfl, ?_⟩) ?_ ?_
      rotate_left
      · intro w'
        go_simp
        with_reducible rfl
      rotate_left
      · simp only [Act.put, List.setIfInBounds_toArray, List.set_cons_zero, List.set_cons_succ, i64_w, i32_w]
        rfl
      refine pure_ (i := 8) (N := some 19) (v := ?_) (a' := ?_) #[true, true, true, true, true, false, true, true, true, false, false, false, false, false, false, false, false, false, false, false, false, false, false, false, false] rfl rfl (any_of HT_.out (by kernel_rfl)) (fun _ _ _ h => h) (Or.inl ⟨by rfl, ?_⟩) ?_ ?_
      rotate_left
      · intro w'
        go_simp
        with_reducible rfl
      rotate_left
      · simp only [Act.put, List.setIfInBounds_toArray, List.set_cons_zero, List.set_cons_succ, i64_w, i32_w]
        rfl
      refine pure_ (i := 9) (N := some 20) (v := ?_) (a' := ?_) #[true, true, true, true, true, false, true, true, true, true, false, false, false, false, false, false, false, false, false, false, false, false, false, false, false] rfl rfl (any_of HT_.out (by kernel_rfl)) (fun _ _ _ h => h) (Or.inl ⟨by rfl, ?_⟩) ?_ ?_
      rotate_left
      · intro w'
        go_simp
        with_reducible rfl
      rotate_left
      · simp only [Act.put, List.setIfInBounds_toArray, List.set_cons_zero, List.set_cons_succ, i64_w, i32_w]
        rfl
      refine pure_ (i := 11) (N := some 22) (v := ?_) (a' := ?_) #[true, true, true, true, true, false, true, true, true, true, false, true, false, false, false, false, false, false, false, false, false, false, false, false, false] rfl rfl (any_of HT_.out (by kernel_rfl)) (fun _ _ _ h => h) (Or.inl ⟨by rfl, ?_⟩) ?_ ?_
      rotate_left
      · intro w'
        go_simp
        with_reducible rfl
      rotate_left
      · simp only [Act.put, List.setIfInBounds_toArray, List.set_cons_zero, List.set_cons_succ, i64_w, i32_w]
        rfl
      refine pure_ (i := 12) (N := some 23) (v := ?_) (a' := ?_) #[true, true, true, true, true, false, true, true, true, true, false, true, true, false, false, false, false, false, false, false, false, false, false, false, false] rfl rfl (any_of HT_.out (by kernel_rfl)) (fun _ _ _ h => h) (Or.inl ⟨by rfl, ?_⟩) ?_ ?_
      rotate_left
      · intro w'
        go_simp
        with_reducible rfl
      rotate_left
      · simp only [Act.put, List.setIfInBounds_toArray, List.set_cons_zero, List.set_cons_succ, i64_w, i32_w]
        rfl
      refine pure_ (i := 13) (N := some 24) (v := ?_) (a' := ?_) #[true, true, true, true, true, false, true, true, true, true, false, true, true, true, false, false, false, false, false, false, false, false, false, false, false] rfl rfl (any_of HT_.out (by kernel_rfl)) (fun _ _ _ h => h) (Or.inl ⟨by rfl, ?_⟩) ?_ ?_
      rotate_left
      · intro w'
        go_simp
        with_reducible rfl
      rotate_left
      · simp only [Act.put, List.setIfInBounds_toArray, List.set_cons_zero, List.set_cons_succ, i64_w, i32_w]
        rfl
      refine pure_ (i := 14) (N := some 25) (v := ?_) (a' := ?_) #[true, true, true, true, true, false, true, true, true, true, false, true, true, true, true, false, false, false, false, false, false, false, false, false, false] rfl rfl (any_of HT_.out (by kernel_rfl)) (fun _ _ _ h => h) (Or.inl ⟨by rfl, ?_⟩) ?_ ?_
      rotate_left
      · intro w'
        go_simp
        with_reducible rfl
      rotate_left
      · simp only [Act.put, List.setIfInBounds_toArray, List.set_cons_zero, List.set_cons_succ, i64_w, i32_w]
        rfl
      refine pure_ (i := 16) (N := some 27) (v := ?_) (a' := ?_) #[true, true, true, true, true, false, true, true, true, true, false, true, true, true, true, false, true, false, false, false, false, false, false, false, false] rfl rfl (any_of HT_.out (by kernel_rfl)) (fun _ _ _ h => h) (Or.inl ⟨by rfl, ?_⟩) ?_ ?_
      rotate_left
      · intro w'
        go_simp
        with_reducible rfl
      rotate_left
      · simp only [Act.put, List.setIfInBounds_toArray, List.set_cons_zero, List.set_cons_succ, i64_w, i32_w]
        rfl
      refine pure_ (i := 17) (N := some 28) (v := ?_) (a' := ?_) #[true, true, true, true, true, false, true, true, true, true, false, true, true, true, true, false, true, true, false, false, false, false, false, false, false] rfl rfl (any_of HT_.out (by kernel_rfl)) (fun _ _ _ h => h) (Or.inl ⟨by rfl, ?_⟩) ?_ ?_
      rotate_left
      · intro w'
        go_simp
        with_reducible rfl
      rotate_left
      · simp only [Act.put, List.setIfInBounds_toArray, List.set_cons_zero, List.set_cons_succ, i64_w, i32_w]
        rfl
      refine pure_ (i := 18) (N := some 29) (v := ?_) (a' := ?_) #[true, true, true, true, true, false, true, true, true, true, false, true, true, true, true, false, true, true, true, false, false, false, false, false, false] rfl rfl (any_of HT_.out (by kernel_rfl)) (fun _ _ _ h => h) (Or.inl ⟨by rfl, ?_⟩) ?_ ?_
      rotate_left
      · intro w'
        go_simp
        with_reducible rfl
      rotate_left
      · simp only [Act.put, List.setIfInBounds_toArray, List.set_cons_zero, List.set_cons_succ, i64_w, i32_w]
        rfl
      refine pure_ (i := 19) (N := some 30) (v := ?_) (a' := ?_) #[true, true, true, true, true, false, true, true, true, true, false, true, true, true, true, false, true, true, true, true, false, false, false, false, false] rfl rfl (any_of HT_.out (by kernel_rfl)) (fun _ _ _ h => h) (Or.inl ⟨by rfl, ?_⟩) ?_ ?_
      rotate_left
      · intro w'
        go_simp
        with_reducible rfl
      rotate_left
      · simp only [Act.put, List.setIfInBounds_toArray, List.set_cons_zero, List.set_cons_succ, i64_w, i32_w]
        rfl
      refine take_ (i := 5) (N := some 16) (v := ?_) (a' := ?_) #[true, true, true, true, true, true, true, true, true, true, false, true, true, true, true, false, true, true, true, true, false, false, false, false, false] rfl rfl (take_ofW HT_.out HW_.out (by kernel_rfl)) (fun _ _ _ h => h) (Or.inl ⟨by rfl, ?_⟩) hHeld ?_ ?_
      rotate_left
      · rintro w' ⟨s0, s1, s2, s3, s4, s5, s6, s7, s8, s9, s10, s11, s12, s13, s14, s15⟩
        go_simp
        with_reducible rfl
      rotate_left
      · simp only [Act.put, List.setIfInBounds_toArray, List.set_cons_zero, List.set_cons_succ, i64_w, i32_w]
        rfl
      refine take_ (i := 10) (N := some 21) (v := ?_) (a' := ?_) #[true, true, true, true, true, true, true, true, true, true, true, true, true, true, true, false, true, true, true, true, false, false, false, false, false] rfl rfl (take_ofW HT_.out HW_.out (by kernel_rfl)) (fun _ _ _ h => h) (Or.inl ⟨by rfl, ?_⟩) hHeld ?_ ?_
      rotate_left
      · rintro w' ⟨s0, s1, s2, s3, s4, s5, s6, s7, s8, s9, s10, s11, s12, s13, s14, s15⟩
        go_simp
        with_reducible rfl
      rotate_left
      · simp only [Act.put, List.setIfInBounds_toArray, List.set_cons_zero, List.set_cons_succ, i64_w, i32_w]
        rfl
      refine take_ (i := 15) (N := some 26) (v := ?_) (a' := ?_) #[true, true, true, true, true, true, true, true, true, true, true, true, true, true, true, true, true, true, true, true, false, false, false, false, false] rfl rfl (take_ofW HT_.out HW_.out (by kernel_rfl)) (fun _ _ _ h => h) (Or.inl ⟨by rfl, ?_⟩) hHeld ?_ ?_
      rotate_left
      · rintro w' ⟨s0, s1, s2, s3, s4, s5, s6, s7, s8, s9, s10, s11, s12, s13, s14, s15⟩
        go_simp
        with_reducible rfl
      rotate_left
      · simp only [Act.put, List.setIfInBounds_toArray, List.set_cons_zero, List.set_cons_succ, i64_w, i32_w]
        rfl
      refine take_ (i := 20) (N := some 31) (v := ?_) (a' := ?_) #[true, true, true, true, true, true, true, true, true, true, true, true, true, true, true, true, true, true, true, true, true, false, false, false, false] rfl rfl (take_ofW HT_.out HW_.out (by kernel_rfl)) (fun _ _ _ h => h) (Or.inl ⟨by rfl, ?_⟩) hHeld ?_ ?_
      rotate_left
      · rintro w' ⟨s0, s1, s2, s3, s4, s5, s6, s7, s8, s9, s10, s11, s12, s13, s14, s15⟩
        go_simp
        with_reducible rfl
      rotate_left
      · simp only [Act.put, List.setIfInBounds_toArray, List.set_cons_zero, List.set_cons_succ, i64_w, i32_w]
        rfl
      refine pure_ (i := 21) (N := some 32) (v := ?_) (a' := ?_) #[true, true, true, true, true, true, true, true, true, true, true, true, true, true, true, true, true, true, true, true, true, true, false, false, false] rfl rfl (any_of HT_.out (by kernel_rfl)) (fun _ _ _ h => h) (Or.inl ⟨by rfl, ?_⟩) ?_ ?_
      rotate_left
      · intro w'
        go_simp
        with_reducible rfl
      rotate_left
      · simp only [Act.put, List.setIfInBounds_toArray, List.set_cons_zero, List.set_cons_succ, i64_w, i32_w]
        rfl
      refine one_ (i := 22) (N := some 33) #[true, true, true, true, true, true, true, true, true, true, true, true, true, true, true, true, true, true, true, true, true, true, true, false, false] rfl rfl (one_of HT_.out (by kernel_rfl)) (by decide) (fun K hK => ?_)
      refine value_ (w1 := ?_) (v := ?_) (by rfl) rfl ?_ ?_
      rotate_left 2
      · go_simp
        constructor
        · rfl
        · rfl
      refine hK.out _ _ ⟨(World.cell?_alloc_lt _ _ _ (World.block_lt_of_cell? _ _ (((HB.out.cell (World.block_lt_of_cell? w _ hw250_0)).trans hw250_0)))).trans (((HB.out.cell (World.block_lt_of_cell? w _ hw250_0)).trans hw250_0)), (World.cell?_alloc_lt _ _ _ (World.block_lt_of_cell? _ _ (((HB.out.cell (World.block_lt_of_cell? w _ hw250_1)).trans hw250_1)))).trans (((HB.out.cell (World.block_lt_of_cell? w _ hw250_1)).trans hw250_1)), (World.cell?_alloc_lt _ _ _ (World.block_lt_of_cell? _ _ (((HB.out.cell (World.block_lt_of_cell? w _ hw250_2)).trans hw250_2)))).trans (((HB.out.cell (World.block_lt_of_cell? w _ hw250_2)).trans hw250_2)), (World.cell?_alloc_lt _ _ _ (World.block_lt_of_cell? _ _ (((HB.out.cell (World.block_lt_of_cell? w _ hw250_3)).trans hw250_3)))).trans (((HB.out.cell (World.block_lt_of_cell? w _ hw250_3)).trans hw250_3)), (World.cell?_alloc_lt _ _ _ (World.block_lt_of_cell? _ _ (((HB.out.cell (World.block_lt_of_cell? w _ hw251_0)).trans hw251_0)))).trans (((HB.out.cell (World.block_lt_of_cell? w _ hw251_0)).trans hw251_0)), (World.cell?_alloc_lt _ _ _ (World.block_lt_of_cell? _ _ (((HB.out.cell (World.block_lt_of_cell? w _ hw251_1)).trans hw251_1)))).trans (((HB.out.cell (World.block_lt_of_cell? w _ hw251_1)).trans hw251_1)), (World.cell?_alloc_lt _ _ _ (World.block_lt_of_cell? _ _ (((HB.out.cell (World.block_lt_of_cell? w _ hw251_2)).trans hw251_2)))).trans (((HB.out.cell (World.block_lt_of_cell? w _ hw251_2)).trans hw251_2)), (World.cell?_alloc_lt _ _ _ (World.block_lt_of_cell? _ _ (((HB.out.cell (World.block_lt_of_cell? w _ hw251_3)).trans hw251_3)))).trans (((HB.out.cell (World.block_lt_of_cell? w _ hw251_3)).trans hw251_3)), (World.cell?_alloc_lt _ _ _ (World.block_lt_of_cell? _ _ (((HB.out.cell (World.block_lt_of_cell? w _ hw252_0)).trans hw252_0)))).trans (((HB.out.cell (World.block_lt_of_cell? w _ hw252_0)).trans hw252_0)), (World.cell?_alloc_lt _ _ _ (World.block_lt_of_cell? _ _ (((HB.out.cell (World.block_lt_of_cell? w _ hw252_1)).trans hw252_1)))).trans (((HB.out.cell (World.block_lt_of_cell? w _ hw252_1)).trans hw252_1)), (World.cell?_alloc_lt _ _ _ (World.block_lt_of_cell? _ _ (((HB.out.cell (World.block_lt_of_cell? w _ hw252_2)).trans hw252_2)))).trans (((HB.out.cell (World.block_lt_of_cell? w _ hw252_2)).trans hw252_2)), (World.cell?_alloc_lt _ _ _ (World.block_lt_of_cell? _ _ (((HB.out.cell (World.block_lt_of_cell? w _ hw252_3)).trans hw252_3)))).trans (((HB.out.cell (World.block_lt_of_cell? w _ hw252_3)).trans hw252_3)), (World.cell?_alloc_lt _ _ _ (World.block_lt_of_cell? _ _ (((HB.out.cell (World.block_lt_of_cell? w _ hw253_0)).trans hw253_0)))).trans (((HB.out.cell (World.block_lt_of_cell? w _ hw253_0)).trans hw253_0)), (World.cell?_alloc_lt _ _ _ (World.block_lt_of_cell? _ _ (((HB.out.cell (World.block_lt_of_cell? w _ hw253_1)).trans hw253_1)))).trans (((HB.out.cell (World.block_lt_of_cell? w _ hw253_1)).trans hw253_1)), (World.cell?_alloc_lt _ _ _ (World.block_lt_of_cell? _ _ (((HB.out.cell (World.block_lt_of_cell? w _ hw253_2)).trans hw253_2)))).trans (((HB.out.cell (World.block_lt_of_cell? w _ hw253_2)).trans hw253_2)), (World.cell?_alloc_lt _ _ _ (World.block_lt_of_cell? _ _ (((HB.out.cell (World.block_lt_of_cell? w _ hw253_3)).trans hw253_3)))).trans (((HB.out.cell (World.block_lt_of_cell? w _ hw253_3)).trans hw253_3))⟩ (fun hHeld => ?_)
      clear hK K
      refine norm_ (a' := ?_) ?_ ?_
      rotate_left
      · show Act.put _ (some 33) _ = _
        simp only [Act.put, List.setIfInBounds_toArray, List.set_cons_zero, List.set_cons_succ, i64_w, i32_w]
        rfl
      refine one_ (i := 23) (N := some 34) #[true, true, true, true, true, true, true, true, true, true, true, true, true, true, true, true, true, true, true, true, true, true, true, true, false] rfl rfl (one_of HT_.out (by kernel_rfl)) (by decide) (fun K hK => ?_)
      refine Kd.R_append_step k38 (w0 := w) w.heap.size (by rfl) (.tmp 11) (.tmp 33) 39 38 (.agg #[(.string ⟨#[]⟩), (.string ⟨#[]⟩), (.string ⟨#[]⟩), (.bool false)]) 56 rfl Try.underlying39 info38 rfl (by decide) (by omega) u3 x3_1 (⟨(rd_T23 l0 x4_1).f0, (rd_T23 l0 x4_1).f1, (rd_T23 l0 x4_1).f2, (rd_T23 l0 x4_1).f3⟩ : S38) [.string ((rd_T23 l0 x4_1).f0), .string ((rd_T23 l0 x4_1).f1), .string ((rd_T23 l0 x4_1).f2), .bool ((rd_T23 l0 x4_1).f3)] (fun _ => True) (fun _ => False) rfl rfl ?aP (fun _ hk => hk.elim) ?aF ?aO ?aB ?aS ?aL ?_
      (case aP => exact k38_mkM _ _ _ (⟨(rd_T23 l0 x4_1).f0, (rd_T23 l0 x4_1).f1, (rd_T23 l0 x4_1).f2, (rd_T23 l0 x4_1).f3⟩ : S38))
      (case aB => exact (Ky_ HB))
      (case aF => exact (fun _ _ => trivial))
      (case aO => exact (Ku_ HO_3))
      (case aS => exact (below_size (Ky_ HB)))
      (case aL => have := LMc4.out; omega)
      intro v255 w6 ho hb hg hat
      rw [← Ny254.out] at ho
      have HO256 := Aside0.mk (ho)
      replace HB := Aside0.mk (hb)
      clear HO_3
      clear ho hb hg hat
      refine hK.out _ _ ⟨((HB.out.cell (World.block_lt_of_cell? w _ hw250_0)).trans hw250_0), ((HB.out.cell (World.block_lt_of_cell? w _ hw250_1)).trans hw250_1), ((HB.out.cell (World.block_lt_of_cell? w _ hw250_2)).trans hw250_2), ((HB.out.cell (World.block_lt_of_cell? w _ hw250_3)).trans hw250_3), ((HB.out.cell (World.block_lt_of_cell? w _ hw251_0)).trans hw251_0), ((HB.out.cell (World.block_lt_of_cell? w _ hw251_1)).trans hw251_1), ((HB.out.cell (World.block_lt_of_cell? w _ hw251_2)).trans hw251_2), ((HB.out.cell (World.block_lt_of_cell? w _ hw251_3)).trans hw251_3), ((HB.out.cell (World.block_lt_of_cell? w _ hw252_0)).trans hw252_0), ((HB.out.cell (World.block_lt_of_cell? w _ hw252_1)).trans hw252_1), ((HB.out.cell (World.block_lt_of_cell? w _ hw252_2)).trans hw252_2), ((HB.out.cell (World.block_lt_of_cell? w _ hw252_3)).trans hw252_3), ((HB.out.cell (World.block_lt_of_cell? w _ hw253_0)).trans hw253_0), ((HB.out.cell (World.block_lt_of_cell? w _ hw253_1)).trans hw253_1), ((HB.out.cell (World.block_lt_of_cell? w _ hw253_2)).trans hw253_2), ((HB.out.cell (World.block_lt_of_cell? w _ hw253_3)).trans hw253_3)⟩ (fun hHeld => ?_)
      clear hK K
      refine norm_ (a' := ?_) ?_ ?_
      rotate_left
      · show Act.put _ (some 34) _ = _
        simp only [Act.put, List.setIfInBounds_toArray, List.set_cons_zero, List.set_cons_succ, i64_w, i32_w]
        rfl
      refine pure_ (i := 24) (N := some 3) (v := ?_) (a' := ?_) #[true, true, true, true, true, true, true, true, true, true, true, true, true, true, true, true, true, true, true, true, true, true, true, true, true] rfl rfl (any_of HT_.out (by kernel_rfl)) (fun _ _ _ h => h) (Or.inl ⟨by rfl, ?_⟩) ?_ ?_
      rotate_left
      · intro w'
        go_simp
        with_reducible rfl
      rotate_left
      · simp only [Act.put, List.setIfInBounds_toArray, List.set_cons_zero, List.set_cons_succ, i64_w, i32_w]
        rfl
      refine done_ (done_of HT_.out (by kernel_rfl)) ?_
      try go_wp2
      go_roundg k1
      case measure => have := HK1.out; omega
      case rel => exact ⟨(y254), (wrap64 (x4_1 + 1)), (by first | rfl | (simp; done) | (simp [*]; done)), H', ⟨by have := HK1.out; omega⟩, ⟨by (with_reducible repeat (first | apply Kd.R_alloc | apply Kd.R_drewN | apply Kd.R_drew)); exact HO256.out⟩, ⟨Ky_ HB⟩⟩
end Go.Proofs.Ytoogchgoiciggaa.Q
