import Derived.Test.YtoagfdpgnfinhaaQx0
import Derived.Test.YtoagfdpgnfinhaaGStreamReady0
import Derived.Test.YtoagfdpgnfinhaaGStreamReady2
import Derived.Test.YtoagfdpgnfinhaaGStreamReady3
namespace Go.Proofs.Ytoagfdpgnfinhaa.Q
open Go.RowKit Go.Proofs.YtoagfdpgnfinhaaW.PrintWords Go.Proofs.YtoagfdpgnfinhaaW.PrintLast Go.Proofs.YtoagfdpgnfinhaaW.PrintMore
attribute [local go_sem] max2_int min2_int max_two min_two max_three min_three max_four min_four   -- for this text's walks alone
set_option linter.unusedVariables false
set_option linter.unusedSimpArgs false
/-! ### item_Read: function 78 -/
mutual
def item_Read.l0 : Nat → Int → Int → Int → Int → Int → Int → List (S107) → ByteArray → Bool → Option (Int × Int × Int × Int × Int × (List (S107)) × Bool)
  | 0, _, _, _, _, _, _, _, _, _ => none
  | k + 1, x4, x209000, x209001, x209002, x209003, x209004, x209005, x210000, x210001 => if x4 > 0 then (item_Read.j1 k x4 (!x210001) x209000 x209001 x209002 x209003 x209004 x209005 x210000 x210001) else (item_Read.j1 k x4 false x209000 x209001 x209002 x209003 x209004 x209005 x210000 x210001)
def item_Read.j1 : Nat → Int → Bool → Int → Int → Int → Int → Int → List (S107) → ByteArray → Bool → Option (Int × Int × Int × Int × Int × (List (S107)) × Bool)
  | 0, _, _, _, _, _, _, _, _, _, _ => none
  | k + 1, x4, x26, x209000, x209001, x209002, x209003, x209004, x209005, x210000, x210001 => if x26 = true then ((pack_Reader_Text.f k x210000 x210001 16).bind fun bt221 => ((pack_Reader_Text.f k bt221.2.1 bt221.2.2 16).bind fun bt224 => ((pack_Reader_Number.f bt224.2.1 bt224.2.2 1).bind fun bt227 => (if bt227.1 > 1 then (some (0, 0, 0, 0, 0, ([] : List (S107)), false)) else (if bt227.1 = 1 then (if x209005.length < 2513169434916 then (item_Read.l0 k (IntKind.u64.wrap (x4 - 1)) x209000 x209001 x209002 x209003 x209004 (x209005 ++ [(⟨bt221.1, bt224.1, (⟨#[]⟩ : ByteArray), (bt227.1 == 1)⟩ : S107)]) bt227.2.1 bt227.2.2) else (none)) else ((pack_Reader_Text.f k bt227.2.1 bt227.2.2 32).bind fun bt233 => (if x209005.length < 2513169434916 then (item_Read.l0 k (IntKind.u64.wrap (x4 - 1)) x209000 x209001 x209002 x209003 x209004 (x209005 ++ [(⟨bt221.1, bt224.1, bt233.1, (bt227.1 == 1)⟩ : S107)]) bt233.2.1 bt233.2.2) else (none)))))))) else ((pack_Reader_Done.f x210000 x210001).bind fun t239 => (if t239 = true then ((item_Whole.f x209000 x209001 x209002 x209003 x209004 x209005).bind fun t240 => (if t240 = true then (some (x209000, x209001, x209002, x209003, x209004, x209005, true)) else (some (0, 0, 0, 0, 0, ([] : List (S107)), false)))) else (some (0, 0, 0, 0, 0, ([] : List (S107)), false))))
end
def item_Read.f (k : Nat) (a0 : ByteArray) : Option (Int × Int × Int × Int × Int × (List (S107)) × Bool) := (stamp_Get.f k a0 false).bind fun bt210 => ((pack_Reader_Number.f bt210.2.2.2.2.2.1 bt210.2.2.2.2.2.2 1).bind fun bt217 => (item_Read.l0 k bt217.1 bt210.1 bt210.2.1 bt210.2.2.1 bt210.2.2.2.1 bt210.2.2.2.2.1 ([] : List (S107)) bt217.2.1 bt217.2.2))
theorem item_Read.mono_l : ∀ k, (∀ y0 y1 y2 y3 y4 y5 y6 y7 y8, LeO (item_Read.l0 k y0 y1 y2 y3 y4 y5 y6 y7 y8) (item_Read.l0 (k + 1) y0 y1 y2 y3 y4 y5 y6 y7 y8)) ∧ (∀ y0 y1 y2 y3 y4 y5 y6 y7 y8 y9, LeO (item_Read.j1 k y0 y1 y2 y3 y4 y5 y6 y7 y8 y9) (item_Read.j1 (k + 1) y0 y1 y2 y3 y4 y5 y6 y7 y8 y9))
  | 0 => ⟨fun _ _ _ _ _ _ _ _ _ r h => by simp [item_Read.l0] at h, fun _ _ _ _ _ _ _ _ _ _ r h => by simp [item_Read.j1] at h⟩
  | k + 1 => by
    obtain ⟨ih0, ih1⟩ := item_Read.mono_l k
    refine ⟨?_, ?_⟩
    · intro y0 y1 y2 y3 y4 y5 y6 y7 y8
      unfold item_Read.l0
      repeat' first
      | (with_reducible exact ih0 _ _ _ _ _ _ _ _ _)
      | (with_reducible exact ih1 _ _ _ _ _ _ _ _ _ _)
      | (with_reducible exact pack_Reader_Text.mono _ _ _ _)
      | (with_reducible exact stamp_Get.mono _ _ _)
      | (with_reducible exact LeO.refl _)
      | (with_reducible exact LeO.none _)
      | (with_reducible refine LeO.ite ?_ ?_)
      | (with_reducible refine LeO.bind ?_ (fun _ => ?_))
      | exact ih0 _ _ _ _ _ _ _ _ _
      | exact ih1 _ _ _ _ _ _ _ _ _ _
      | exact pack_Reader_Text.mono _ _ _ _
      | exact stamp_Get.mono _ _ _
      | exact LeO.none _
      | refine LeO.ite ?_ ?_
      | refine LeO.bind ?_ (fun _ => ?_)
    · intro y0 y1 y2 y3 y4 y5 y6 y7 y8 y9
      unfold item_Read.j1
      repeat' first
      | (with_reducible exact ih0 _ _ _ _ _ _ _ _ _)
      | (with_reducible exact ih1 _ _ _ _ _ _ _ _ _ _)
      | (with_reducible exact pack_Reader_Text.mono _ _ _ _)
      | (with_reducible exact stamp_Get.mono _ _ _)
      | (with_reducible exact LeO.refl _)
      | (with_reducible exact LeO.none _)
      | (with_reducible refine LeO.ite ?_ ?_)
      | (with_reducible refine LeO.bind ?_ (fun _ => ?_))
      | exact ih0 _ _ _ _ _ _ _ _ _
      | exact ih1 _ _ _ _ _ _ _ _ _ _
      | exact pack_Reader_Text.mono _ _ _ _
      | exact stamp_Get.mono _ _ _
      | exact LeO.none _
      | refine LeO.ite ?_ ?_
      | refine LeO.bind ?_ (fun _ => ?_)
theorem item_Read.mono : ∀ a0 k, LeO (item_Read.f k a0) (item_Read.f (k + 1) a0) := by
  intro a0 k
  obtain ⟨ih0, ih1⟩ := item_Read.mono_l k
  unfold item_Read.f
  repeat' first
      | (with_reducible exact ih0 _ _ _ _ _ _ _ _ _)
      | (with_reducible exact ih1 _ _ _ _ _ _ _ _ _ _)
      | (with_reducible exact pack_Reader_Text.mono _ _ _ _)
      | (with_reducible exact stamp_Get.mono _ _ _)
      | (with_reducible exact LeO.refl _)
      | (with_reducible exact LeO.none _)
      | (with_reducible refine LeO.ite ?_ ?_)
      | (with_reducible refine LeO.bind ?_ (fun _ => ?_))
      | exact ih0 _ _ _ _ _ _ _ _ _
      | exact ih1 _ _ _ _ _ _ _ _ _ _
      | exact pack_Reader_Text.mono _ _ _ _
      | exact stamp_Get.mono _ _ _
      | exact LeO.none _
      | refine LeO.ite ?_ ?_
      | refine LeO.bind ?_ (fun _ => ?_)
set_option maxHeartbeats 8000000 in
set_option maxRecDepth 100000 in
theorem item_Read.calls (k : Nat) (a0 : ByteArray) (r1 : Int) (r2 : Int) (r3 : Int) (r4 : Int) (r5 : Int) (r6 : List (S107)) (r7 : Bool) (w : World) (h : item_Read.f k a0 = some (r1, r2, r3, r4, r5, r6, r7)) :
    Calls Try.prog 78 #[.string a0] w fun e w' => ∃ v5_ : Value, e = .returned (.tuple #[.agg #[.int .u64 r1, .int .u64 r2, .int .u64 r3, .int .u64 r4, .int .i64 r5, v5_], .bool r7]) ∧ Kd.R k107 107 w' w.heap.size (fun _ => True) v5_ r6 ∧ Below w.heap.size w w' := by
  have hu33 := Try.underlying33
  have hu134 := Try.underlying134
  have hu30 := Try.underlying30
  have hu107 := Try.underlying107
  have HB := Aside0.mk (Below.refl w.heap.size w)
  have H : ((stamp_Get.f k a0 false).bind fun bt210 => ((pack_Reader_Number.f bt210.2.2.2.2.2.1 bt210.2.2.2.2.2.2 1).bind fun bt217 => (item_Read.l0 k bt217.1 bt210.1 bt210.2.1 bt210.2.2.1 bt210.2.2.2.1 bt210.2.2.2.2.1 ([] : List (S107)) bt217.2.1 bt217.2.2))) = some (r1, r2, r3, r4, r5, r6, r7) := h
  clear h
  replace H := Option.bind_eq_some_iff.mp H
  obtain ⟨⟨t210, t211, t212, t213, t214, t215, t216⟩, A20, H⟩ := H
  replace H : ((pack_Reader_Number.f t215 t216 1).bind fun bt217 => (item_Read.l0 k bt217.1 t210 t211 t212 t213 t214 ([] : List (S107)) bt217.2.1 bt217.2.2)) = some (r1, r2, r3, r4, r5, r6, r7) := H
  have A2 := Aside0.mk A20
  clear A20
  replace H := Option.bind_eq_some_iff.mp H
  obtain ⟨⟨t217, t218, t219⟩, A30, H⟩ := H
  replace H : (item_Read.l0 k t217 t210 t211 t212 t213 t214 ([] : List (S107)) t218 t219) = some (r1, r2, r3, r4, r5, r6, r7) := H
  have A3 := Aside0.mk A30
  clear A30
  have H' := Aside0.mk H
  clear H
  go_enter Try.func78, Try.ntmps78
  go_wp2_with (first | ((with_reducible refine gate_dst (N := 2) rfl ?_); refine Ka_ 2 #[.int .u64 0, .int .u64 0, .int .u64 0, .int .u64 0, .int .i64 0, .slice none 0 0] 33 ?_; intro gb208 hg w4 hbox hb; have BK208 := Aside0.mk (hbox); have GW208 := Kw_ HB hg; have GE208 := GW208; replace HB := Ks_ HB hb; clear hb hbox hg) | ((with_reducible refine gate_dst (N := 6) rfl ?_); refine Ka_ 6 #[.string (⟨#[]⟩ : ByteArray), .bool false] 134 ?_; intro gb209 hg w5 hbox hb; have BK209 := Aside0.mk (hbox); have GW209 := Kw_ HB hg; have GE209 := GW209; have NB208_209 := Kl_ BK208 hg; have NB209_208 := Kr_ BK208 hg; replace BK208 := Kb_ BK208 hb; replace HB := Ks_ HB hb; clear hb hbox hg) | ((with_reducible refine gate_callee (f := 99) rfl ?_); refine Kg_ (some 11) rfl rfl Try.func99 (by kernel_rfl) rfl #[.agg #[.string a0, .bool false]] rfl ?_; (with_reducible refine (stamp_Get.calls k a0 false t210 t211 t212 t213 t214 t215 t216 _ A2.out).mono ?_); rintro e w6 ⟨rfl, hb⟩; refine ⟨_, rfl, ?_⟩; replace BK208 := Kb_ BK208 hb; replace BK209 := Kb_ BK209 hb; replace HB := Ks_ HB hb; (try clear hb); (try clear hb2); (try clear hk); (try clear hi); have hnb7 := NB208_209.out; have hnc7 := NB209_208.out; obtain ⟨hcz8_0, hcz8_1, hcz8_2, hcz8_3, hcz8_4, hcz8_5, hfz8_0, hfz8_1, hfz8_2, hfz8_3, hfz8_4, hfz8_5⟩ := Ke6_ BK208.out; obtain ⟨hcz9_0, hcz9_1, hfz9_0, hfz9_1⟩ := Ke2_ BK209.out) | ((with_reducible refine gate_callee (f := 75) rfl ?_); refine Kg_ (some 17) rfl rfl Try.func75 (by kernel_rfl) rfl #[.agg #[.string t215, .bool t216], .int .i64 1] rfl ?_; (with_reducible refine (pack_Reader_Number.calls t215 t216 1 t217 t218 t219 _ A3.out).mono ?_); rintro e w10 ⟨rfl, hb⟩; refine ⟨_, rfl, ?_⟩; replace BK208 := Aside0.mk (blk_below (g := gb208) (o := .cells #[.int .u64 t210, .int .u64 t211, .int .u64 t212, .int .u64 t213, .int .i64 t214, .slice none 0 0] 33 (0, 0)) (by (repeat (first | (with_reducible first | refine blk_drewN ?_ _ | refine blk_drew ?_ | refine blk_alloc ?_ _) | refine blk_far ?_ NB208_209.out _)); refine blk_put (cs := #[.int .u64 t210, .int .u64 t211, .int .u64 t212, .int .u64 t213, .int .i64 0, .slice none 0 0]) ?_ 4 _ rfl; refine Kv_ ?_; refine blk_put (cs := #[.int .u64 t210, .int .u64 t211, .int .u64 t212, .int .u64 0, .int .i64 0, .slice none 0 0]) ?_ 3 _ rfl; refine Kv_ ?_; refine blk_put (cs := #[.int .u64 t210, .int .u64 t211, .int .u64 0, .int .u64 0, .int .i64 0, .slice none 0 0]) ?_ 2 _ rfl; refine Kv_ ?_; refine blk_put (cs := #[.int .u64 t210, .int .u64 0, .int .u64 0, .int .u64 0, .int .i64 0, .slice none 0 0]) ?_ 1 _ rfl; refine Kv_ ?_; refine blk_put (cs := #[.int .u64 0, .int .u64 0, .int .u64 0, .int .u64 0, .int .i64 0, .slice none 0 0]) ?_ 0 _ rfl; exact Kq_ BK208) hb); replace BK209 := Aside0.mk (blk_below (g := gb209) (o := .cells #[.string t215, .bool t216] 134 (0, 0)) (by refine Kv_ ?_; refine blk_put (cs := #[.string t215, .bool false]) ?_ 1 _ rfl; refine Kv_ ?_; refine blk_put (cs := #[.string (⟨#[]⟩ : ByteArray), .bool false]) ?_ 0 _ rfl; exact K1b_ BK209 NB209_208) hb); replace HB := Aside0.mk (below_step (K2a_ HB GE208 GE209) hb); (try clear hb); (try clear hb2); (try clear hk); (try clear hi); obtain ⟨hcz11_0, hcz11_1, hfz11_0, hfz11_1⟩ := Ke2_ BK209.out))
  go_loopg [4] k (fun kq v4 w' => ∃ (x4_1 : Int) (x209000_1 : Int) (x209001_1 : Int) (x209002_1 : Int) (x209003_1 : Int) (x209004_1 : Int) (x209005_1 : List (S107)) (x210000_1 : ByteArray) (x210001_1 : Bool) (u209005 : Value), v4 = .int .u64 x4_1 ∧ Aside0 (item_Read.l0 kq x4_1 x209000_1 x209001_1 x209002_1 x209003_1 x209004_1 x209005_1 x210000_1 x210001_1 = some (r1, r2, r3, r4, r5, r6, r7)) ∧ Aside0 (kq ≤ k) ∧ Aside0 (Kd.R k107 107 w' w.heap.size (fun _ => True) u209005 x209005_1) ∧ Aside0 (w'.heap[gb208]? = some (.cells #[.int .u64 x209000_1, .int .u64 x209001_1, .int .u64 x209002_1, .int .u64 x209003_1, .int .i64 x209004_1, u209005] 33 (0, 0))) ∧ Aside0 (w'.heap[gb209]? = some (.cells #[.string x210000_1, .bool x210001_1] 134 (0, 0))) ∧ Aside0 (Below w.heap.size w w'))
  case atStart => exact ⟨(t217), (t210), (t211), (t212), (t213), (t214), (([] : List (S107))), (t218), (t219), (.slice none 0 0), (by first | rfl | (simp; done) | (simp [*]; done)), H', ⟨Nat.le_refl _⟩, ⟨by first | exact Kd.R_nil _ _ _ _ _ | exact Kd.N_nil _ _ _ _ _ | exact Kd.V_nil _ _ _ _ _ | exact Kd.Q_nil _ _ _ _ _ | exact Kd.S_nil _ _ _ _ _⟩, ⟨by exact K1b_ BK208 NB208_209⟩, ⟨by refine Kv_ ?_; refine blk_put (cs := #[.string t218, .bool t216]) ?_ 1 _ rfl; refine Kv_ ?_; refine blk_put (cs := #[.string t215, .bool t216]) ?_ 0 _ rfl; exact Kq_ BK209⟩, ⟨K2a_ HB GE208 GE209⟩⟩
  case round =>
    clear H'
    try clear p2
    try clear c7
    try clear c9
    try clear hcz11_0
    try clear hcz11_1
    try clear hcz8_0
    try clear hcz8_1
    try clear hcz8_2
    try clear hcz8_3
    try clear hcz8_4
    try clear hcz8_5
    try clear hcz9_0
    try clear hcz9_1
    try clear hfz11_0
    try clear hfz11_1
    try clear hfz8_0
    try clear hfz8_1
    try clear hfz8_2
    try clear hfz8_3
    try clear hfz8_4
    try clear hfz8_5
    try clear hfz9_0
    try clear hfz9_1
    obtain ⟨x4_1, x209000_1, x209001_1, x209002_1, x209003_1, x209004_1, x209005_1, x210000_1, x210001_1, u209005, rfl, HA, HK1, HO_209005, BK208, BK209, HB⟩ := hrel
    cases gk with
    | zero => exact absurd HA.out (by simp [item_Read.l0])
    | succ k1 =>
      have H := HA.out
      clear HA
      simp only [item_Read.l0] at H
      have HC12 := Aside0.mk H
      clear H
      go_upto_region 5 with (fail)
      go_cut [26] (fun v26 wc => ∃ (kq : Nat) (x26_11 : Bool), v26 = .bool x26_11 ∧ Aside0 (item_Read.j1 kq x4_1 x26_11 x209000_1 x209001_1 x209002_1 x209003_1 x209004_1 x209005_1 x210000_1 x210001_1 = some (r1, r2, r3, r4, r5, r6, r7)) ∧ Aside0 (kq ≤ k1) ∧ Aside0 (Kd.R k107 107 wc w.heap.size (fun _ => True) u209005 x209005_1) ∧ Aside0 (wc.heap[gb208]? = some (.cells #[.int .u64 x209000_1, .int .u64 x209001_1, .int .u64 x209002_1, .int .u64 x209003_1, .int .i64 x209004_1, u209005] 33 (0, 0))) ∧ Aside0 (wc.heap[gb209]? = some (.cells #[.string x210000_1, .bool x210001_1] 134 (0, 0))) ∧ Aside0 (Below w.heap.size w wc))
      case first =>
        have H := HC12.out
        clear HC12
        by_cases c13 : x4_1 > 0
        rotate_left
        · rw [if_neg c13] at H
          have c13b0 : decide (0 < x4_1) = false := decide_eq_false c13
          clear c13
          (first | rw [c13b0] | (simp only [i64_w, i32_w]; rw [c13b0]) | skip)
          have H' := Aside0.mk H
          clear H
          go_wp2
          go_meet
          case rel => exact ⟨_, (false), (by first | rfl | (simp; done) | (simp [*]; done)), H', ⟨by have := HK1.out; first | omega | exact Nat.le_refl _⟩, ⟨by (with_reducible repeat (first | apply Kd.R_alloc | apply Kd.R_drewN | apply Kd.R_drew)); exact HO_209005.out⟩, ⟨by exact Kq_ BK208⟩, ⟨by exact Kq_ BK209⟩, ⟨K2a_ HB GE208 GE209⟩⟩
        rw [if_pos c13] at H
        have c13b0 : decide (0 < x4_1) = true := decide_eq_true c13
        clear c13
        (first | rw [c13b0] | (simp only [i64_w, i32_w]; rw [c13b0]) | skip)
        have H' := Aside0.mk H
        clear H
        have hnb14 := NB209_208.out
        have hnc14 := NB208_209.out
        obtain ⟨hcz15_0, hcz15_1, hfz15_0, hfz15_1⟩ := Ke2_ BK209.out
        go_wp2
        go_meet
        case rel => exact ⟨_, (!x210001_1), (by first | rfl | (simp; done) | (simp [*]; done)), H', ⟨by have := HK1.out; first | omega | exact Nat.le_refl _⟩, ⟨by (with_reducible repeat (first | apply Kd.R_alloc | apply Kd.R_drewN | apply Kd.R_drew)); exact HO_209005.out⟩, ⟨by exact Kq_ BK208⟩, ⟨by exact Kq_ BK209⟩, ⟨K2a_ HB GE208 GE209⟩⟩
      case rest =>
        clear HC12
        try clear c1
        try clear p2
        try clear c7
        try clear c9
        try clear c13
        try clear c13b0
        try clear c14
        try clear hcz11_0
        try clear hcz11_1
        try clear hcz15_0
        try clear hcz15_1
        try clear hcz8_0
        try clear hcz8_1
        try clear hcz8_2
        try clear hcz8_3
        try clear hcz8_4
        try clear hcz8_5
        try clear hcz9_0
        try clear hcz9_1
        try clear hfz11_0
        try clear hfz11_1
        try clear hfz15_0
        try clear hfz15_1
        try clear hfz8_0
        try clear hfz8_1
        try clear hfz8_2
        try clear hfz8_3
        try clear hfz8_4
        try clear hfz8_5
        try clear hfz9_0
        try clear hfz9_1
        try clear p2
        obtain ⟨kq, x26_11, rfl, HA, HJ11, HO_209005, BK208, BK209, HB⟩ := hcut
        cases kq with
        | zero => exact absurd HA.out (by simp [item_Read.j1])
        | succ kj11 =>
          have H := HA.out
          clear HA
          simp only [item_Read.j1] at H
          by_cases c16 : x26_11 = true
          rotate_left
          · replace c16 := Bool.eq_false_iff.mpr c16
            subst c16
            have H1 : ((pack_Reader_Done.f x210000_1 x210001_1).bind fun t239 => (if t239 = true then ((item_Whole.f x209000_1 x209001_1 x209002_1 x209003_1 x209004_1 x209005_1).bind fun t240 => (if t240 = true then (some (x209000_1, x209001_1, x209002_1, x209003_1, x209004_1, x209005_1, true)) else (some (0, 0, 0, 0, 0, ([] : List (S107)), false)))) else (some (0, 0, 0, 0, 0, ([] : List (S107)), false)))) = some (r1, r2, r3, r4, r5, r6, r7) := by rw [if_neg (show ¬ (false = true) by decide)] at H; exact H
            clear H
            have H := H1
            clear H1
            replace H := Option.bind_eq_some_iff.mp H
            obtain ⟨t239, A780, H⟩ := H
            replace H : (if t239 = true then ((item_Whole.f x209000_1 x209001_1 x209002_1 x209003_1 x209004_1 x209005_1).bind fun t240 => (if t240 = true then (some (x209000_1, x209001_1, x209002_1, x209003_1, x209004_1, x209005_1, true)) else (some (0, 0, 0, 0, 0, ([] : List (S107)), false)))) else (some (0, 0, 0, 0, 0, ([] : List (S107)), false))) = some (r1, r2, r3, r4, r5, r6, r7) := H
            have A78 := Aside0.mk A780
            clear A780
            by_cases c79 : t239 = true
            rotate_left
            · replace c79 := Bool.eq_false_iff.mpr c79
              subst c79
              have H1 : (some (0, 0, 0, 0, 0, ([] : List (S107)), false)) = some (r1, r2, r3, r4, r5, r6, r7) := by rw [if_neg (show ¬ (false = true) by decide)] at H; exact H
              clear H
              have H := H1
              clear H1
              simp only [Option.some.injEq, Prod.mk.injEq] at H
              obtain ⟨rfl, rfl, rfl, rfl, rfl, rfl, rfl⟩ := H
              have hnb96 := NB209_208.out
              have hnc96 := NB208_209.out
              obtain ⟨hcz97_0, hcz97_1, hfz97_0, hfz97_1⟩ := Ke2_ BK209.out
              go_wp2_with (first | ((with_reducible refine gate_callee (f := 100) rfl ?_); refine Kg_ (some 68) rfl rfl Try.func100 (by kernel_rfl) rfl #[.agg #[.string x210000_1, .bool x210001_1]] rfl ?_; (with_reducible refine (pack_Reader_Done.calls x210000_1 x210001_1 false _ A78.out).mono ?_); rintro e w98 ⟨rfl, hb⟩; refine ⟨_, rfl, ?_⟩; replace HO_209005 := Aside0.mk (Kd.R_below (Ku_ HO_209005) hb); replace BK208 := Kb_ BK208 hb; replace BK209 := Kb_ BK209 hb; replace HB := Ks_ HB hb; (try clear hb); (try clear hb2); (try clear hk); (try clear hi); obtain ⟨hcz99_0, hcz99_1, hcz99_2, hcz99_3, hcz99_4, hcz99_5, hfz99_0, hfz99_1, hfz99_2, hfz99_3, hfz99_4, hfz99_5⟩ := Ke6_ BK208.out))
              refine bodyPost_ret (results_ct rfl _ _ gb208 33 #[.int .u64 0, .int .u64 0, .int .u64 0, .int .u64 0, .int .i64 0, .slice none 0 0] (0, 0) _ rfl (by refine Kv_ ?_; refine blk_put (cs := #[.int .u64 0, .int .u64 0, .int .u64 0, .int .u64 0, .int .i64 0, u209005]) ?_ 5 _ rfl; refine Kv_ ?_; refine blk_put (cs := #[.int .u64 0, .int .u64 0, .int .u64 0, .int .u64 0, .int .i64 x209004_1, u209005]) ?_ 4 _ rfl; refine Kv_ ?_; refine blk_put (cs := #[.int .u64 0, .int .u64 0, .int .u64 0, .int .u64 x209003_1, .int .i64 x209004_1, u209005]) ?_ 3 _ rfl; refine Kv_ ?_; refine blk_put (cs := #[.int .u64 0, .int .u64 0, .int .u64 x209002_1, .int .u64 x209003_1, .int .i64 x209004_1, u209005]) ?_ 2 _ rfl; refine Kv_ ?_; refine blk_put (cs := #[.int .u64 0, .int .u64 x209001_1, .int .u64 x209002_1, .int .u64 x209003_1, .int .i64 x209004_1, u209005]) ?_ 1 _ rfl; refine Kv_ ?_; refine blk_put (cs := #[.int .u64 x209000_1, .int .u64 x209001_1, .int .u64 x209002_1, .int .u64 x209003_1, .int .i64 x209004_1, u209005]) ?_ 0 _ rfl; exact Kq_ BK208) Try.underlying33 rfl (by kernel_rfl)) rfl ?_
              exact ⟨_, by first | rfl | (simp [errW_none, errW_some] <;> rfl) | (simp [*, errW_none, errW_some] <;> rfl), by first | exact Kd.R_nil _ _ _ _ _ | exact Kd.N_nil _ _ _ _ _ | exact Kd.V_nil _ _ _ _ _ | exact Kd.Q_nil _ _ _ _ _ | exact Kd.S_nil _ _ _ _ _, K2a_ HB GE208 GE209⟩
            subst c79
            have H1 : ((item_Whole.f x209000_1 x209001_1 x209002_1 x209003_1 x209004_1 x209005_1).bind fun t240 => (if t240 = true then (some (x209000_1, x209001_1, x209002_1, x209003_1, x209004_1, x209005_1, true)) else (some (0, 0, 0, 0, 0, ([] : List (S107)), false)))) = some (r1, r2, r3, r4, r5, r6, r7) := by rw [if_pos rfl] at H; exact H
            clear H
            have H := H1
            clear H1
            replace H := Option.bind_eq_some_iff.mp H
            obtain ⟨t240, A800, H⟩ := H
            replace H : (if t240 = true then (some (x209000_1, x209001_1, x209002_1, x209003_1, x209004_1, x209005_1, true)) else (some (0, 0, 0, 0, 0, ([] : List (S107)), false))) = some (r1, r2, r3, r4, r5, r6, r7) := H
            have A80 := Aside0.mk A800
            clear A800
            by_cases c81 : t240 = true
            rotate_left
            · replace c81 := Bool.eq_false_iff.mpr c81
              subst c81
              have H1 : (some (0, 0, 0, 0, 0, ([] : List (S107)), false)) = some (r1, r2, r3, r4, r5, r6, r7) := by rw [if_neg (show ¬ (false = true) by decide)] at H; exact H
              clear H
              have H := H1
              clear H1
              simp only [Option.some.injEq, Prod.mk.injEq] at H
              obtain ⟨rfl, rfl, rfl, rfl, rfl, rfl, rfl⟩ := H
              have hnb89 := NB209_208.out
              have hnc89 := NB208_209.out
              obtain ⟨hcz90_0, hcz90_1, hfz90_0, hfz90_1⟩ := Ke2_ BK209.out
              go_wp2_with (first | ((with_reducible refine gate_callee (f := 100) rfl ?_); refine Kg_ (some 68) rfl rfl Try.func100 (by kernel_rfl) rfl #[.agg #[.string x210000_1, .bool x210001_1]] rfl ?_; (with_reducible refine (pack_Reader_Done.calls x210000_1 x210001_1 true _ A78.out).mono ?_); rintro e w91 ⟨rfl, hb⟩; refine ⟨_, rfl, ?_⟩; replace HO_209005 := Aside0.mk (Kd.R_below (Ku_ HO_209005) hb); replace BK208 := Kb_ BK208 hb; replace BK209 := Kb_ BK209 hb; replace HB := Ks_ HB hb; (try clear hb); (try clear hb2); (try clear hk); (try clear hi); obtain ⟨hcz92_0, hcz92_1, hcz92_2, hcz92_3, hcz92_4, hcz92_5, hfz92_0, hfz92_1, hfz92_2, hfz92_3, hfz92_4, hfz92_5⟩ := Ke6_ BK208.out; obtain ⟨Ao93, co93, eo93⟩ := Kd.R_slice HO_209005.out; subst eo93) | (go_at_call 73; (with_reducible refine (item_Whole.calls x209000_1 x209001_1 x209002_1 x209003_1 x209004_1 _ _ x209005_1 false _ ?side1 ?side2 A80.out).mono ?_); (case side1 => repeat (first | exact (Kd.R_reads' HO_209005.out).2.2 | (with_reducible refine Kd.C_alloc ?_ _) | (with_reducible refine Kd.C_drewN ?_ _) | (with_reducible refine Kd.C_drew ?_))); (case side2 => exact (Kd.R_reads' HO_209005.out).2.1); rintro e w94 ⟨rfl, hb⟩; replace HO_209005 := Aside0.mk (Kd.R_below (Ku_ HO_209005) hb); replace BK208 := Kb_ BK208 hb; replace BK209 := Kb_ BK209 hb; replace HB := Ks_ HB hb; (try clear hb); (try clear hb2); (try clear hk); (try clear hi); obtain ⟨hcz95_0, hcz95_1, hcz95_2, hcz95_3, hcz95_4, hcz95_5, hfz95_0, hfz95_1, hfz95_2, hfz95_3, hfz95_4, hfz95_5⟩ := Ke6_ BK208.out))
              refine bodyPost_ret (results_ct rfl _ _ gb208 33 #[.int .u64 0, .int .u64 0, .int .u64 0, .int .u64 0, .int .i64 0, .slice none 0 0] (0, 0) _ rfl (by refine Kv_ ?_; refine blk_put (cs := #[.int .u64 0, .int .u64 0, .int .u64 0, .int .u64 0, .int .i64 0, .slice Ao93 x209005_1.length co93]) ?_ 5 _ rfl; refine Kv_ ?_; refine blk_put (cs := #[.int .u64 0, .int .u64 0, .int .u64 0, .int .u64 0, .int .i64 x209004_1, .slice Ao93 x209005_1.length co93]) ?_ 4 _ rfl; refine Kv_ ?_; refine blk_put (cs := #[.int .u64 0, .int .u64 0, .int .u64 0, .int .u64 x209003_1, .int .i64 x209004_1, .slice Ao93 x209005_1.length co93]) ?_ 3 _ rfl; refine Kv_ ?_; refine blk_put (cs := #[.int .u64 0, .int .u64 0, .int .u64 x209002_1, .int .u64 x209003_1, .int .i64 x209004_1, .slice Ao93 x209005_1.length co93]) ?_ 2 _ rfl; refine Kv_ ?_; refine blk_put (cs := #[.int .u64 0, .int .u64 x209001_1, .int .u64 x209002_1, .int .u64 x209003_1, .int .i64 x209004_1, .slice Ao93 x209005_1.length co93]) ?_ 1 _ rfl; refine Kv_ ?_; refine blk_put (cs := #[.int .u64 x209000_1, .int .u64 x209001_1, .int .u64 x209002_1, .int .u64 x209003_1, .int .i64 x209004_1, .slice Ao93 x209005_1.length co93]) ?_ 0 _ rfl; exact Kq_ BK208) Try.underlying33 rfl (by kernel_rfl)) rfl ?_
              exact ⟨_, by first | rfl | (simp [errW_none, errW_some] <;> rfl) | (simp [*, errW_none, errW_some] <;> rfl), by first | exact Kd.R_nil _ _ _ _ _ | exact Kd.N_nil _ _ _ _ _ | exact Kd.V_nil _ _ _ _ _ | exact Kd.Q_nil _ _ _ _ _ | exact Kd.S_nil _ _ _ _ _, K2a_ HB GE208 GE209⟩
            subst c81
            have H1 : (some (x209000_1, x209001_1, x209002_1, x209003_1, x209004_1, x209005_1, true)) = some (r1, r2, r3, r4, r5, r6, r7) := by rw [if_pos rfl] at H; exact H
            clear H
            have H := H1
            clear H1
            simp only [Option.some.injEq, Prod.mk.injEq] at H
            obtain ⟨rfl, rfl, rfl, rfl, rfl, rfl, rfl⟩ := H
            have hnb82 := NB209_208.out
            have hnc82 := NB208_209.out
            obtain ⟨hcz83_0, hcz83_1, hfz83_0, hfz83_1⟩ := Ke2_ BK209.out
            go_wp2_with (first | ((with_reducible refine gate_callee (f := 100) rfl ?_); refine Kg_ (some 68) rfl rfl Try.func100 (by kernel_rfl) rfl #[.agg #[.string x210000_1, .bool x210001_1]] rfl ?_; (with_reducible refine (pack_Reader_Done.calls x210000_1 x210001_1 true _ A78.out).mono ?_); rintro e w84 ⟨rfl, hb⟩; refine ⟨_, rfl, ?_⟩; replace HO_209005 := Aside0.mk (Kd.R_below (Ku_ HO_209005) hb); replace BK208 := Kb_ BK208 hb; replace BK209 := Kb_ BK209 hb; replace HB := Ks_ HB hb; (try clear hb); (try clear hb2); (try clear hk); (try clear hi); obtain ⟨hcz85_0, hcz85_1, hcz85_2, hcz85_3, hcz85_4, hcz85_5, hfz85_0, hfz85_1, hfz85_2, hfz85_3, hfz85_4, hfz85_5⟩ := Ke6_ BK208.out; obtain ⟨Ao86, co86, eo86⟩ := Kd.R_slice HO_209005.out; subst eo86) | (go_at_call 73; (with_reducible refine (item_Whole.calls x209000_1 x209001_1 x209002_1 x209003_1 x209004_1 _ _ x209005_1 true _ ?side1 ?side2 A80.out).mono ?_); (case side1 => repeat (first | exact (Kd.R_reads' HO_209005.out).2.2 | (with_reducible refine Kd.C_alloc ?_ _) | (with_reducible refine Kd.C_drewN ?_ _) | (with_reducible refine Kd.C_drew ?_))); (case side2 => exact (Kd.R_reads' HO_209005.out).2.1); rintro e w87 ⟨rfl, hb⟩; replace HO_209005 := Aside0.mk (Kd.R_below (Ku_ HO_209005) hb); replace BK208 := Kb_ BK208 hb; replace BK209 := Kb_ BK209 hb; replace HB := Ks_ HB hb; (try clear hb); (try clear hb2); (try clear hk); (try clear hi); obtain ⟨hcz88_0, hcz88_1, hcz88_2, hcz88_3, hcz88_4, hcz88_5, hfz88_0, hfz88_1, hfz88_2, hfz88_3, hfz88_4, hfz88_5⟩ := Ke6_ BK208.out))
            refine bodyPost_ret (results_ct rfl _ _ gb208 33 #[.int .u64 x209000_1, .int .u64 x209001_1, .int .u64 x209002_1, .int .u64 x209003_1, .int .i64 x209004_1, .slice Ao86 x209005_1.length co86] (0, 0) _ rfl (by refine Kv_ ?_; refine blk_put (cs := #[.int .u64 x209000_1, .int .u64 x209001_1, .int .u64 x209002_1, .int .u64 x209003_1, .int .i64 x209004_1, .slice Ao86 x209005_1.length co86]) ?_ 5 _ rfl; refine Kv_ ?_; refine blk_put (cs := #[.int .u64 x209000_1, .int .u64 x209001_1, .int .u64 x209002_1, .int .u64 x209003_1, .int .i64 x209004_1, .slice Ao86 x209005_1.length co86]) ?_ 4 _ rfl; refine Kv_ ?_; refine blk_put (cs := #[.int .u64 x209000_1, .int .u64 x209001_1, .int .u64 x209002_1, .int .u64 x209003_1, .int .i64 x209004_1, .slice Ao86 x209005_1.length co86]) ?_ 3 _ rfl; refine Kv_ ?_; refine blk_put (cs := #[.int .u64 x209000_1, .int .u64 x209001_1, .int .u64 x209002_1, .int .u64 x209003_1, .int .i64 x209004_1, .slice Ao86 x209005_1.length co86]) ?_ 2 _ rfl; refine Kv_ ?_; refine blk_put (cs := #[.int .u64 x209000_1, .int .u64 x209001_1, .int .u64 x209002_1, .int .u64 x209003_1, .int .i64 x209004_1, .slice Ao86 x209005_1.length co86]) ?_ 1 _ rfl; refine Kv_ ?_; refine blk_put (cs := #[.int .u64 x209000_1, .int .u64 x209001_1, .int .u64 x209002_1, .int .u64 x209003_1, .int .i64 x209004_1, .slice Ao86 x209005_1.length co86]) ?_ 0 _ rfl; exact Kq_ BK208) Try.underlying33 rfl (by kernel_rfl)) rfl ?_
            exact ⟨_, by first | rfl | (simp [errW_none, errW_some] <;> rfl) | (simp [*, errW_none, errW_some] <;> rfl), by (with_reducible repeat (first | apply Kd.R_alloc | apply Kd.R_drewN | apply Kd.R_drew)); exact Kd.R_mono (Kd.R_far (p := ⟨gb208, 5, none⟩) (Kd.R_far (p := ⟨gb208, 4, none⟩) (Kd.R_far (p := ⟨gb208, 3, none⟩) (Kd.R_far (p := ⟨gb208, 2, none⟩) (Kd.R_far (p := ⟨gb208, 1, none⟩) (Kd.R_far (p := ⟨gb208, 0, none⟩) (Kd.R_types HO_209005.out BK208.out (by decide)) (fun _ hk => hk.2) (.int .u64 x209000_1)) (fun _ hk => hk.2) (.int .u64 x209001_1)) (fun _ hk => hk.2) (.int .u64 x209002_1)) (fun _ hk => hk.2) (.int .u64 x209003_1)) (fun _ hk => hk.2) (.int .i64 x209004_1)) (fun _ hk => hk.2) (.slice Ao86 x209005_1.length co86)) (fun _ hk => trivial), K2a_ HB GE208 GE209⟩
          subst c16
          have H1 : ((pack_Reader_Text.f kj11 x210000_1 x210001_1 16).bind fun bt221 => ((pack_Reader_Text.f kj11 bt221.2.1 bt221.2.2 16).bind fun bt224 => ((pack_Reader_Number.f bt224.2.1 bt224.2.2 1).bind fun bt227 => (if bt227.1 > 1 then (some (0, 0, 0, 0, 0, ([] : List (S107)), false)) else (if bt227.1 = 1 then (if x209005_1.length < 2513169434916 then (item_Read.l0 kj11 (IntKind.u64.wrap (x4_1 - 1)) x209000_1 x209001_1 x209002_1 x209003_1 x209004_1 (x209005_1 ++ [(⟨bt221.1, bt224.1, (⟨#[]⟩ : ByteArray), (bt227.1 == 1)⟩ : S107)]) bt227.2.1 bt227.2.2) else (none)) else ((pack_Reader_Text.f kj11 bt227.2.1 bt227.2.2 32).bind fun bt233 => (if x209005_1.length < 2513169434916 then (item_Read.l0 kj11 (IntKind.u64.wrap (x4_1 - 1)) x209000_1 x209001_1 x209002_1 x209003_1 x209004_1 (x209005_1 ++ [(⟨bt221.1, bt224.1, bt233.1, (bt227.1 == 1)⟩ : S107)]) bt233.2.1 bt233.2.2) else (none)))))))) = some (r1, r2, r3, r4, r5, r6, r7) := by rw [if_pos rfl] at H; exact H
          clear H
          have H := H1
          clear H1
          replace H := Option.bind_eq_some_iff.mp H
          obtain ⟨⟨t221, t222, t223⟩, A170, H⟩ := H
          replace H : ((pack_Reader_Text.f kj11 t222 t223 16).bind fun bt224 => ((pack_Reader_Number.f bt224.2.1 bt224.2.2 1).bind fun bt227 => (if bt227.1 > 1 then (some (0, 0, 0, 0, 0, ([] : List (S107)), false)) else (if bt227.1 = 1 then (if x209005_1.length < 2513169434916 then (item_Read.l0 kj11 (IntKind.u64.wrap (x4_1 - 1)) x209000_1 x209001_1 x209002_1 x209003_1 x209004_1 (x209005_1 ++ [(⟨t221, bt224.1, (⟨#[]⟩ : ByteArray), (bt227.1 == 1)⟩ : S107)]) bt227.2.1 bt227.2.2) else (none)) else ((pack_Reader_Text.f kj11 bt227.2.1 bt227.2.2 32).bind fun bt233 => (if x209005_1.length < 2513169434916 then (item_Read.l0 kj11 (IntKind.u64.wrap (x4_1 - 1)) x209000_1 x209001_1 x209002_1 x209003_1 x209004_1 (x209005_1 ++ [(⟨t221, bt224.1, bt233.1, (bt227.1 == 1)⟩ : S107)]) bt233.2.1 bt233.2.2) else (none))))))) = some (r1, r2, r3, r4, r5, r6, r7) := H
          have A17 := Aside0.mk A170
          clear A170
          replace H := Option.bind_eq_some_iff.mp H
          obtain ⟨⟨t224, t225, t226⟩, A180, H⟩ := H
          replace H : ((pack_Reader_Number.f t225 t226 1).bind fun bt227 => (if bt227.1 > 1 then (some (0, 0, 0, 0, 0, ([] : List (S107)), false)) else (if bt227.1 = 1 then (if x209005_1.length < 2513169434916 then (item_Read.l0 kj11 (IntKind.u64.wrap (x4_1 - 1)) x209000_1 x209001_1 x209002_1 x209003_1 x209004_1 (x209005_1 ++ [(⟨t221, t224, (⟨#[]⟩ : ByteArray), (bt227.1 == 1)⟩ : S107)]) bt227.2.1 bt227.2.2) else (none)) else ((pack_Reader_Text.f kj11 bt227.2.1 bt227.2.2 32).bind fun bt233 => (if x209005_1.length < 2513169434916 then (item_Read.l0 kj11 (IntKind.u64.wrap (x4_1 - 1)) x209000_1 x209001_1 x209002_1 x209003_1 x209004_1 (x209005_1 ++ [(⟨t221, t224, bt233.1, (bt227.1 == 1)⟩ : S107)]) bt233.2.1 bt233.2.2) else (none)))))) = some (r1, r2, r3, r4, r5, r6, r7) := H
          have A18 := Aside0.mk A180
          clear A180
          replace H := Option.bind_eq_some_iff.mp H
          obtain ⟨⟨t227, t228, t229⟩, A190, H⟩ := H
          replace H : (if t227 > 1 then (some (0, 0, 0, 0, 0, ([] : List (S107)), false)) else (if t227 = 1 then (if x209005_1.length < 2513169434916 then (item_Read.l0 kj11 (IntKind.u64.wrap (x4_1 - 1)) x209000_1 x209001_1 x209002_1 x209003_1 x209004_1 (x209005_1 ++ [(⟨t221, t224, (⟨#[]⟩ : ByteArray), (t227 == 1)⟩ : S107)]) t228 t229) else (none)) else ((pack_Reader_Text.f kj11 t228 t229 32).bind fun bt233 => (if x209005_1.length < 2513169434916 then (item_Read.l0 kj11 (IntKind.u64.wrap (x4_1 - 1)) x209000_1 x209001_1 x209002_1 x209003_1 x209004_1 (x209005_1 ++ [(⟨t221, t224, bt233.1, (t227 == 1)⟩ : S107)]) bt233.2.1 bt233.2.2) else (none))))) = some (r1, r2, r3, r4, r5, r6, r7) := H
          have A19 := Aside0.mk A190
          clear A190
          by_cases c20 : t227 > 1
          · rw [if_pos c20] at H
            have c20b0 : decide (1 < t227) = true := decide_eq_true c20
            clear c20
            simp only [Option.some.injEq, Prod.mk.injEq] at H
            obtain ⟨rfl, rfl, rfl, rfl, rfl, rfl, rfl⟩ := H
            go_wp2_with (first | ((with_reducible refine gate_dst (N := 7) rfl ?_); refine Ka_ 7 #[.string (⟨#[]⟩ : ByteArray), .string (⟨#[]⟩ : ByteArray), .string (⟨#[]⟩ : ByteArray), .bool false] 107 ?_; intro gb220 hg w21 hbox hb; have BK220 := Aside0.mk (hbox); have GW220 := Kw_ HB hg; have GE220 := GW220; have NB208_220 := Kl_ BK208 hg; have NB220_208 := Kr_ BK208 hg; have NB209_220 := Kl_ BK209 hg; have NB220_209 := Kr_ BK209 hg; replace HO_209005 := Aside0.mk (Kd.R_below (Kd.R_elderB (Ku_ HO_209005) gb220 (Nat.le_of_eq hg.symm)) hb); replace BK208 := Kb_ BK208 hb; replace BK209 := Kb_ BK209 hb; replace HB := Ks_ HB hb; clear hb hbox hg; have hnb22 := NB209_208.out; have hnc22 := NB208_209.out; have hnb23 := NB209_220.out; have hnc23 := NB220_209.out; obtain ⟨hcz24_0, hcz24_1, hfz24_0, hfz24_1⟩ := Ke2_ BK209.out) | ((with_reducible refine gate_callee (f := 77) rfl ?_); refine Kg_ (some 31) rfl rfl Try.func77 (by kernel_rfl) rfl #[.agg #[.string x210000_1, .bool x210001_1], .int .i64 16] rfl ?_; (with_reducible refine (pack_Reader_Text.calls kj11 x210000_1 x210001_1 16 t221 t222 t223 _ A17.out).mono ?_); rintro e w25 ⟨rfl, hb⟩; refine ⟨_, rfl, ?_⟩; replace HO_209005 := Aside0.mk (Kd.R_below (Ku_ HO_209005) hb); replace BK208 := Kb_ BK208 hb; replace BK209 := Kb_ BK209 hb; replace BK220 := Kb_ BK220 hb; replace HB := Ks_ HB hb; (try clear hb); (try clear hb2); (try clear hk); (try clear hi); have hnb26 := NB220_208.out; have hnc26 := NB208_220.out; obtain ⟨hcz27_0, hcz27_1, hcz27_2, hcz27_3, hfz27_0, hfz27_1, hfz27_2, hfz27_3⟩ := Ke4_ BK220.out; obtain ⟨hcz28_0, hcz28_1, hfz28_0, hfz28_1⟩ := Ke2_ BK209.out) | ((with_reducible refine gate_callee (f := 77) rfl ?_); refine Kg_ (some 37) rfl rfl Try.func77 (by kernel_rfl) rfl #[.agg #[.string t222, .bool t223], .int .i64 16] rfl ?_; (with_reducible refine (pack_Reader_Text.calls kj11 t222 t223 16 t224 t225 t226 _ A18.out).mono ?_); rintro e w29 ⟨rfl, hb⟩; refine ⟨_, rfl, ?_⟩; replace HO_209005 := Aside0.mk (Kd.R_below (by (with_reducible repeat (first | apply Kd.R_alloc | apply Kd.R_drewN | apply Kd.R_drew)); exact (Kd.R_mono (Kd.R_mono (Kd.R_far (p := ⟨gb209, 1, none⟩) (Kd.R_far (p := ⟨gb209, 0, none⟩) (Kd.R_far (p := ⟨gb220, 0, none⟩) (Kd.R_types (Kd.R_mono HO_209005.out (fun k_ hk => (⟨hk, hk.2⟩ : _ ∧ k_ ≠ gb220))) BK209.out (by decide)) (fun _ hk => hk.1.2) (.string t221)) (fun _ hk => hk.2) (.string t222)) (fun _ hk => hk.2) (.bool t223)) (fun _ h_ => h_.1)) (fun _ h_ => h_.1))) hb); replace BK208 := Aside0.mk (blk_below (g := gb208) (o := .cells #[.int .u64 x209000_1, .int .u64 x209001_1, .int .u64 x209002_1, .int .u64 x209003_1, .int .i64 x209004_1, u209005] 33 (0, 0)) (K2b_ BK208 NB208_209 NB208_220) hb); replace BK209 := Aside0.mk (blk_below (g := gb209) (o := .cells #[.string t222, .bool t223] 134 (0, 0)) (by refine Kv_ ?_; refine blk_put (cs := #[.string t222, .bool x210001_1]) ?_ 1 _ rfl; refine Kv_ ?_; refine blk_put (cs := #[.string x210000_1, .bool x210001_1]) ?_ 0 _ rfl; exact K1b_ BK209 NB209_220) hb); replace BK220 := Aside0.mk (blk_below (g := gb220) (o := .cells #[.string t221, .string (⟨#[]⟩ : ByteArray), .string (⟨#[]⟩ : ByteArray), .bool false] 107 (0, 0)) (by (repeat (first | (with_reducible first | refine blk_drewN ?_ _ | refine blk_drew ?_ | refine blk_alloc ?_ _) | refine blk_far ?_ NB220_209.out _)); refine blk_put (cs := #[.string (⟨#[]⟩ : ByteArray), .string (⟨#[]⟩ : ByteArray), .string (⟨#[]⟩ : ByteArray), .bool false]) ?_ 0 _ rfl; exact Kq_ BK220) hb); replace HB := Aside0.mk (below_step (K3a_ HB GE208 GE209 GE220) hb); (try clear hb); (try clear hb2); (try clear hk); (try clear hi); obtain ⟨hcz30_0, hcz30_1, hcz30_2, hcz30_3, hfz30_0, hfz30_1, hfz30_2, hfz30_3⟩ := Ke4_ BK220.out; obtain ⟨hcz31_0, hcz31_1, hfz31_0, hfz31_1⟩ := Ke2_ BK209.out) | ((with_reducible refine gate_callee (f := 75) rfl ?_); refine Kg_ (some 43) rfl rfl Try.func75 (by kernel_rfl) rfl #[.agg #[.string t225, .bool t226], .int .i64 1] rfl ?_; (with_reducible refine (pack_Reader_Number.calls t225 t226 1 t227 t228 t229 _ A19.out).mono ?_); rintro e w32 ⟨rfl, hb⟩; refine ⟨_, rfl, ?_⟩; replace HO_209005 := Aside0.mk (Kd.R_below (by (with_reducible repeat (first | apply Kd.R_alloc | apply Kd.R_drewN | apply Kd.R_drew)); exact (Kd.R_mono (Kd.R_mono (Kd.R_far (p := ⟨gb209, 1, none⟩) (Kd.R_far (p := ⟨gb209, 0, none⟩) (Kd.R_far (p := ⟨gb220, 1, none⟩) (Kd.R_types (Kd.R_mono HO_209005.out (fun k_ hk => (⟨hk, hk.2⟩ : _ ∧ k_ ≠ gb220))) BK209.out (by decide)) (fun _ hk => hk.1.2) (.string t224)) (fun _ hk => hk.2) (.string t225)) (fun _ hk => hk.2) (.bool t226)) (fun _ h_ => h_.1)) (fun _ h_ => h_.1))) hb); replace BK208 := Aside0.mk (blk_below (g := gb208) (o := .cells #[.int .u64 x209000_1, .int .u64 x209001_1, .int .u64 x209002_1, .int .u64 x209003_1, .int .i64 x209004_1, u209005] 33 (0, 0)) (K2b_ BK208 NB208_209 NB208_220) hb); replace BK209 := Aside0.mk (blk_below (g := gb209) (o := .cells #[.string t225, .bool t226] 134 (0, 0)) (by refine Kv_ ?_; refine blk_put (cs := #[.string t225, .bool t223]) ?_ 1 _ rfl; refine Kv_ ?_; refine blk_put (cs := #[.string t222, .bool t223]) ?_ 0 _ rfl; exact K1b_ BK209 NB209_220) hb); replace BK220 := Aside0.mk (blk_below (g := gb220) (o := .cells #[.string t221, .string t224, .string (⟨#[]⟩ : ByteArray), .bool false] 107 (0, 0)) (by (repeat (first | (with_reducible first | refine blk_drewN ?_ _ | refine blk_drew ?_ | refine blk_alloc ?_ _) | refine blk_far ?_ NB220_209.out _)); refine blk_put (cs := #[.string t221, .string (⟨#[]⟩ : ByteArray), .string (⟨#[]⟩ : ByteArray), .bool false]) ?_ 1 _ rfl; exact Kq_ BK220) hb); replace HB := Aside0.mk (below_step (K3a_ HB GE208 GE209 GE220) hb); (try clear hb); (try clear hb2); (try clear hk); (try clear hi); obtain ⟨hcz33_0, hcz33_1, hfz33_0, hfz33_1⟩ := Ke2_ BK209.out; obtain ⟨hcz34_0, hcz34_1, hcz34_2, hcz34_3, hcz34_4, hcz34_5, hfz34_0, hfz34_1, hfz34_2, hfz34_3, hfz34_4, hfz34_5⟩ := Ke6_ BK208.out))
            refine bodyPost_ret (results_ct rfl _ _ gb208 33 #[.int .u64 0, .int .u64 0, .int .u64 0, .int .u64 0, .int .i64 0, .slice none 0 0] (0, 0) _ rfl (by refine Kv_ ?_; refine blk_put (cs := #[.int .u64 0, .int .u64 0, .int .u64 0, .int .u64 0, .int .i64 0, u209005]) ?_ 5 _ rfl; refine Kv_ ?_; refine blk_put (cs := #[.int .u64 0, .int .u64 0, .int .u64 0, .int .u64 0, .int .i64 x209004_1, u209005]) ?_ 4 _ rfl; refine Kv_ ?_; refine blk_put (cs := #[.int .u64 0, .int .u64 0, .int .u64 0, .int .u64 x209003_1, .int .i64 x209004_1, u209005]) ?_ 3 _ rfl; refine Kv_ ?_; refine blk_put (cs := #[.int .u64 0, .int .u64 0, .int .u64 x209002_1, .int .u64 x209003_1, .int .i64 x209004_1, u209005]) ?_ 2 _ rfl; refine Kv_ ?_; refine blk_put (cs := #[.int .u64 0, .int .u64 x209001_1, .int .u64 x209002_1, .int .u64 x209003_1, .int .i64 x209004_1, u209005]) ?_ 1 _ rfl; refine Kv_ ?_; refine blk_put (cs := #[.int .u64 x209000_1, .int .u64 x209001_1, .int .u64 x209002_1, .int .u64 x209003_1, .int .i64 x209004_1, u209005]) ?_ 0 _ rfl; exact K1b_ BK208 NB208_209) Try.underlying33 rfl (by kernel_rfl)) rfl ?_
            exact ⟨_, by first | rfl | (simp [errW_none, errW_some] <;> rfl) | (simp [*, errW_none, errW_some] <;> rfl), by first | exact Kd.R_nil _ _ _ _ _ | exact Kd.N_nil _ _ _ _ _ | exact Kd.V_nil _ _ _ _ _ | exact Kd.Q_nil _ _ _ _ _ | exact Kd.S_nil _ _ _ _ _, K3a_ HB GE208 GE209 GE220⟩
          rw [if_neg c20] at H
          have c20b0 : decide (1 < t227) = false := decide_eq_false c20
          clear c20
          by_cases c35 : t227 = 1
          · rw [if_pos c35] at H
            have c35b0 : (t227 == 1) = true := beq_iff_eq.mpr c35
            (try simp only [c35b0] at H)
            have c35b1 : (t227 != 1) = false := bne_eq_false_iff_eq.mpr c35
            clear c35
            by_cases c36 : x209005_1.length < 2513169434916
            rotate_left
            · rw [if_neg c36] at H
              exact absurd H (by simp)
            rw [if_pos c36] at H
            have LMc36 := Aside0.mk c36
            clear c36
            obtain ⟨y230, hy230⟩ : ∃ y_ : List (S107), y_ = (x209005_1 ++ [(⟨t221, t224, (⟨#[]⟩ : ByteArray), true⟩ : S107)]) := ⟨_, rfl⟩
            replace H : (item_Read.l0 kj11 (IntKind.u64.wrap (x4_1 - 1)) x209000_1 x209001_1 x209002_1 x209003_1 x209004_1 y230 t228 t229) = some (r1, r2, r3, r4, r5, r6, r7) := by first | (rw [hy230]; with_reducible exact H) | (have H2_ := (Option.bind_some _ _).symm.trans H; rw [hy230]; with_reducible exact H2_) | (have H2_ := (Option.bind_some _ _).symm.trans H; with_reducible exact H2_) | with_reducible exact H | (rw [hy230]; exact H) | exact H
            have Ny230 := Aside0.mk hy230
            clear hy230
            have H' := Aside0.mk H
            clear H
            go_wp2_with (first | ((with_reducible refine gate_dst (N := 7) rfl ?_); refine Ka_ 7 #[.string (⟨#[]⟩ : ByteArray), .string (⟨#[]⟩ : ByteArray), .string (⟨#[]⟩ : ByteArray), .bool false] 107 ?_; intro gb220 hg w37 hbox hb; have BK220 := Aside0.mk (hbox); have GW220 := Kw_ HB hg; have GE220 := GW220; have NB208_220 := Kl_ BK208 hg; have NB220_208 := Kr_ BK208 hg; have NB209_220 := Kl_ BK209 hg; have NB220_209 := Kr_ BK209 hg; replace HO_209005 := Aside0.mk (Kd.R_below (Kd.R_elderB (Ku_ HO_209005) gb220 (Nat.le_of_eq hg.symm)) hb); replace BK208 := Kb_ BK208 hb; replace BK209 := Kb_ BK209 hb; replace HB := Ks_ HB hb; clear hb hbox hg; have hnb38 := NB209_208.out; have hnc38 := NB208_209.out; have hnb39 := NB209_220.out; have hnc39 := NB220_209.out; obtain ⟨hcz40_0, hcz40_1, hfz40_0, hfz40_1⟩ := Ke2_ BK209.out) | ((with_reducible refine gate_callee (f := 77) rfl ?_); refine Kg_ (some 31) rfl rfl Try.func77 (by kernel_rfl) rfl #[.agg #[.string x210000_1, .bool x210001_1], .int .i64 16] rfl ?_; (with_reducible refine (pack_Reader_Text.calls kj11 x210000_1 x210001_1 16 t221 t222 t223 _ A17.out).mono ?_); rintro e w41 ⟨rfl, hb⟩; refine ⟨_, rfl, ?_⟩; replace HO_209005 := Aside0.mk (Kd.R_below (Ku_ HO_209005) hb); replace BK208 := Kb_ BK208 hb; replace BK209 := Kb_ BK209 hb; replace BK220 := Kb_ BK220 hb; replace HB := Ks_ HB hb; (try clear hb); (try clear hb2); (try clear hk); (try clear hi); have hnb42 := NB220_208.out; have hnc42 := NB208_220.out; obtain ⟨hcz43_0, hcz43_1, hcz43_2, hcz43_3, hfz43_0, hfz43_1, hfz43_2, hfz43_3⟩ := Ke4_ BK220.out; obtain ⟨hcz44_0, hcz44_1, hfz44_0, hfz44_1⟩ := Ke2_ BK209.out) | ((with_reducible refine gate_callee (f := 77) rfl ?_); refine Kg_ (some 37) rfl rfl Try.func77 (by kernel_rfl) rfl #[.agg #[.string t222, .bool t223], .int .i64 16] rfl ?_; (with_reducible refine (pack_Reader_Text.calls kj11 t222 t223 16 t224 t225 t226 _ A18.out).mono ?_); rintro e w45 ⟨rfl, hb⟩; refine ⟨_, rfl, ?_⟩; replace HO_209005 := Aside0.mk (Kd.R_below (by (with_reducible repeat (first | apply Kd.R_alloc | apply Kd.R_drewN | apply Kd.R_drew)); exact (Kd.R_mono (Kd.R_mono (Kd.R_far (p := ⟨gb209, 1, none⟩) (Kd.R_far (p := ⟨gb209, 0, none⟩) (Kd.R_far (p := ⟨gb220, 0, none⟩) (Kd.R_types (Kd.R_mono HO_209005.out (fun k_ hk => (⟨hk, hk.2⟩ : _ ∧ k_ ≠ gb220))) BK209.out (by decide)) (fun _ hk => hk.1.2) (.string t221)) (fun _ hk => hk.2) (.string t222)) (fun _ hk => hk.2) (.bool t223)) (fun _ h_ => h_.1)) (fun _ h_ => h_.1))) hb); replace BK208 := Aside0.mk (blk_below (g := gb208) (o := .cells #[.int .u64 x209000_1, .int .u64 x209001_1, .int .u64 x209002_1, .int .u64 x209003_1, .int .i64 x209004_1, u209005] 33 (0, 0)) (K2b_ BK208 NB208_209 NB208_220) hb); replace BK209 := Aside0.mk (blk_below (g := gb209) (o := .cells #[.string t222, .bool t223] 134 (0, 0)) (by refine Kv_ ?_; refine blk_put (cs := #[.string t222, .bool x210001_1]) ?_ 1 _ rfl; refine Kv_ ?_; refine blk_put (cs := #[.string x210000_1, .bool x210001_1]) ?_ 0 _ rfl; exact K1b_ BK209 NB209_220) hb); replace BK220 := Aside0.mk (blk_below (g := gb220) (o := .cells #[.string t221, .string (⟨#[]⟩ : ByteArray), .string (⟨#[]⟩ : ByteArray), .bool false] 107 (0, 0)) (by (repeat (first | (with_reducible first | refine blk_drewN ?_ _ | refine blk_drew ?_ | refine blk_alloc ?_ _) | refine blk_far ?_ NB220_209.out _)); refine blk_put (cs := #[.string (⟨#[]⟩ : ByteArray), .string (⟨#[]⟩ : ByteArray), .string (⟨#[]⟩ : ByteArray), .bool false]) ?_ 0 _ rfl; exact Kq_ BK220) hb); replace HB := Aside0.mk (below_step (K3a_ HB GE208 GE209 GE220) hb); (try clear hb); (try clear hb2); (try clear hk); (try clear hi); obtain ⟨hcz46_0, hcz46_1, hcz46_2, hcz46_3, hfz46_0, hfz46_1, hfz46_2, hfz46_3⟩ := Ke4_ BK220.out; obtain ⟨hcz47_0, hcz47_1, hfz47_0, hfz47_1⟩ := Ke2_ BK209.out) | ((with_reducible refine gate_callee (f := 75) rfl ?_); refine Kg_ (some 43) rfl rfl Try.func75 (by kernel_rfl) rfl #[.agg #[.string t225, .bool t226], .int .i64 1] rfl ?_; (with_reducible refine (pack_Reader_Number.calls t225 t226 1 t227 t228 t229 _ A19.out).mono ?_); rintro e w48 ⟨rfl, hb⟩; refine ⟨_, rfl, ?_⟩; replace HO_209005 := Aside0.mk (Kd.R_below (by (with_reducible repeat (first | apply Kd.R_alloc | apply Kd.R_drewN | apply Kd.R_drew)); exact (Kd.R_mono (Kd.R_mono (Kd.R_far (p := ⟨gb209, 1, none⟩) (Kd.R_far (p := ⟨gb209, 0, none⟩) (Kd.R_far (p := ⟨gb220, 1, none⟩) (Kd.R_types (Kd.R_mono HO_209005.out (fun k_ hk => (⟨hk, hk.2⟩ : _ ∧ k_ ≠ gb220))) BK209.out (by decide)) (fun _ hk => hk.1.2) (.string t224)) (fun _ hk => hk.2) (.string t225)) (fun _ hk => hk.2) (.bool t226)) (fun _ h_ => h_.1)) (fun _ h_ => h_.1))) hb); replace BK208 := Aside0.mk (blk_below (g := gb208) (o := .cells #[.int .u64 x209000_1, .int .u64 x209001_1, .int .u64 x209002_1, .int .u64 x209003_1, .int .i64 x209004_1, u209005] 33 (0, 0)) (K2b_ BK208 NB208_209 NB208_220) hb); replace BK209 := Aside0.mk (blk_below (g := gb209) (o := .cells #[.string t225, .bool t226] 134 (0, 0)) (by refine Kv_ ?_; refine blk_put (cs := #[.string t225, .bool t223]) ?_ 1 _ rfl; refine Kv_ ?_; refine blk_put (cs := #[.string t222, .bool t223]) ?_ 0 _ rfl; exact K1b_ BK209 NB209_220) hb); replace BK220 := Aside0.mk (blk_below (g := gb220) (o := .cells #[.string t221, .string t224, .string (⟨#[]⟩ : ByteArray), .bool false] 107 (0, 0)) (by (repeat (first | (with_reducible first | refine blk_drewN ?_ _ | refine blk_drew ?_ | refine blk_alloc ?_ _) | refine blk_far ?_ NB220_209.out _)); refine blk_put (cs := #[.string t221, .string (⟨#[]⟩ : ByteArray), .string (⟨#[]⟩ : ByteArray), .bool false]) ?_ 1 _ rfl; exact Kq_ BK220) hb); replace HB := Aside0.mk (below_step (K3a_ HB GE208 GE209 GE220) hb); (try clear hb); (try clear hb2); (try clear hk); (try clear hi); obtain ⟨hcz49_0, hcz49_1, hfz49_0, hfz49_1⟩ := Ke2_ BK209.out; obtain ⟨hcz50_0, hcz50_1, hcz50_2, hcz50_3, hfz50_0, hfz50_1, hfz50_2, hfz50_3⟩ := Ke4_ BK220.out; obtain ⟨hcz51_0, hcz51_1, hcz51_2, hcz51_3, hcz51_4, hcz51_5, hfz51_0, hfz51_1, hfz51_2, hfz51_3, hfz51_4, hfz51_5⟩ := Ke6_ BK208.out) | ((with_reducible refine gate_builtin (b := .append) (xs := #[.tmp 62, .tmp 64]) rfl ?_); at_builtin; refine Kd.R_append k107 (w0 := w) w.heap.size rfl (.tmp 62) (.tmp 64) 31 107 (.agg #[(.string ⟨#[]⟩), (.string ⟨#[]⟩), (.string ⟨#[]⟩), (.bool false)]) 56 rfl Try.underlying31 info107 rfl (by decide) (by omega) u209005 x209005_1 (⟨t221, t224, (⟨#[]⟩ : ByteArray), true⟩ : S107) [.string t221, .string t224, .string (⟨#[]⟩ : ByteArray), .bool true] (fun k_ => k_ ≠ gb220) (fun _ => False) rfl (by first | (go_simp; done) | (go_simp; rfl)) ?aP (fun _ hk => hk.elim) ?aF ?aO ?aB ?aS ?aL ?_; (case aP => exact k107_mkM _ _ _ (⟨t221, t224, (⟨#[]⟩ : ByteArray), true⟩ : S107)); (case aB => exact (K3a_ HB GE208 GE209 GE220)); (case aF => exact (fun k_ hk => Kd.freshB (g := gb220) (o := .cells #[.string t221, .string t224, .string (⟨#[]⟩ : ByteArray), .bool true] 107 (0, 0)) (by refine Kv_ ?_; refine blk_put (cs := #[.string t221, .string t224, .string (⟨#[]⟩ : ByteArray), .bool false]) ?_ 3 _ rfl; exact K1b_ BK220 NB220_209) k_ hk)); (case aO => exact (by (with_reducible repeat (first | apply Kd.R_alloc | apply Kd.R_drewN | apply Kd.R_drew)); exact Kd.R_mono (Kd.R_far (p := ⟨gb220, 3, none⟩) (Kd.R_far (p := ⟨gb209, 1, none⟩) (Kd.R_far (p := ⟨gb209, 0, none⟩) (Kd.R_mono (Kd.R_types HO_209005.out BK209.out (by decide)) (fun k_ hk => (⟨hk, hk.1.2⟩ : _ ∧ k_ ≠ gb220))) (fun _ hk => hk.1.2) (.string t228)) (fun _ hk => hk.1.2) (.bool t229)) (fun _ hk => hk.2) (.bool true)) (fun _ hk => hk.1.1.2))); (case aS => exact (below_size (K3a_ HB GE208 GE209 GE220))); (case aL => have := LMc36.out; omega); intro v231 w52 ho hb hg hat; rw [← Ny230.out] at ho; have HO232 := Aside0.mk (ho); replace BK208 := Aside0.mk (blk_grown (g := gb208) (o := .cells #[.int .u64 x209000_1, .int .u64 x209001_1, .int .u64 x209002_1, .int .u64 x209003_1, .int .i64 x209004_1, u209005] 33 (0, 0)) (K2b_ BK208 NB208_220 NB208_209) hg (Kd.R_ne HO_209005.out BK208.out (by decide))); replace BK209 := Aside0.mk (blk_grown (g := gb209) (o := .cells #[.string t228, .bool t229] 134 (0, 0)) (by (repeat (first | (with_reducible first | refine blk_drewN ?_ _ | refine blk_drew ?_ | refine blk_alloc ?_ _) | refine blk_far ?_ NB209_220.out _)); refine blk_put (cs := #[.string t228, .bool t226]) ?_ 1 _ rfl; refine Kv_ ?_; refine blk_put (cs := #[.string t225, .bool t226]) ?_ 0 _ rfl; exact Kq_ BK209) hg (Kd.R_ne HO_209005.out BK209.out (by decide))); replace BK220 := Aside0.mk (blk_grown (g := gb220) (o := .cells #[.string t221, .string t224, .string (⟨#[]⟩ : ByteArray), .bool true] 107 (0, 0)) (by refine Kv_ ?_; refine blk_put (cs := #[.string t221, .string t224, .string (⟨#[]⟩ : ByteArray), .bool false]) ?_ 3 _ rfl; exact K1b_ BK220 NB220_209) hg (Kd.R_away HO_209005.out (fun _ hk => hk.2))); replace HB := Aside0.mk (hb); clear HO_209005; clear ho hb hg hat; obtain ⟨Ao53, co53, eo53⟩ := Kd.R_slice HO232.out; subst eo53; obtain ⟨hcz54_0, hcz54_1, hcz54_2, hcz54_3, hcz54_4, hcz54_5, hfz54_0, hfz54_1, hfz54_2, hfz54_3, hfz54_4, hfz54_5⟩ := Ke6_ BK208.out))
            go_roundg kj11
            case measure => have := HK1.out; have := HJ11.out; omega
            case rel => exact ⟨(IntKind.u64.wrap (x4_1 - 1)), (x209000_1), (x209001_1), (x209002_1), (x209003_1), (x209004_1), (y230), (t228), (t229), (.slice Ao53 y230.length co53), (by first | rfl | (simp; done) | (simp [*]; done)), H', ⟨by have := HK1.out; have := HJ11.out; omega⟩, ⟨by (with_reducible repeat (first | apply Kd.R_alloc | apply Kd.R_drewN | apply Kd.R_drew)); exact Kd.R_mono (Kd.R_far (p := ⟨gb208, 5, none⟩) (Kd.R_types HO232.out BK208.out (by decide)) (fun _ hk => hk.2) (.slice Ao53 y230.length co53)) (fun _ hk => trivial)⟩, ⟨by refine Kv_ ?_; refine blk_put (cs := #[.int .u64 x209000_1, .int .u64 x209001_1, .int .u64 x209002_1, .int .u64 x209003_1, .int .i64 x209004_1, u209005]) ?_ 5 _ rfl; exact Kq_ BK208⟩, ⟨by exact K1b_ BK209 NB209_208⟩, ⟨K3a_ HB GE208 GE209 GE220⟩⟩
          rw [if_neg c35] at H
          have c35b0 : (t227 == 1) = false := beq_eq_false_iff_ne.mpr c35
          (try simp only [c35b0] at H)
          have c35b1 : (t227 != 1) = true := bne_iff_ne.mpr c35
          replace H := Option.bind_eq_some_iff.mp H
          obtain ⟨⟨t233, t234, t235⟩, A550, H⟩ := H
          replace H : (if x209005_1.length < 2513169434916 then (item_Read.l0 kj11 (IntKind.u64.wrap (x4_1 - 1)) x209000_1 x209001_1 x209002_1 x209003_1 x209004_1 (x209005_1 ++ [(⟨t221, t224, t233, false⟩ : S107)]) t234 t235) else (none)) = some (r1, r2, r3, r4, r5, r6, r7) := H
          have A55 := Aside0.mk A550
          clear A550
          by_cases c56 : x209005_1.length < 2513169434916
          rotate_left
          · rw [if_neg c56] at H
            exact absurd H (by simp)
          rw [if_pos c56] at H
          have LMc56 := Aside0.mk c56
          clear c56
          obtain ⟨y236, hy236⟩ : ∃ y_ : List (S107), y_ = (x209005_1 ++ [(⟨t221, t224, t233, false⟩ : S107)]) := ⟨_, rfl⟩
          replace H : (item_Read.l0 kj11 (IntKind.u64.wrap (x4_1 - 1)) x209000_1 x209001_1 x209002_1 x209003_1 x209004_1 y236 t234 t235) = some (r1, r2, r3, r4, r5, r6, r7) := by first | (rw [hy236]; with_reducible exact H) | (have H2_ := (Option.bind_some _ _).symm.trans H; rw [hy236]; with_reducible exact H2_) | (have H2_ := (Option.bind_some _ _).symm.trans H; with_reducible exact H2_) | with_reducible exact H | (rw [hy236]; exact H) | exact H
          have Ny236 := Aside0.mk hy236
          clear hy236
          have H' := Aside0.mk H
          clear H
          go_wp2_with (first | ((with_reducible refine gate_dst (N := 7) rfl ?_); refine Ka_ 7 #[.string (⟨#[]⟩ : ByteArray), .string (⟨#[]⟩ : ByteArray), .string (⟨#[]⟩ : ByteArray), .bool false] 107 ?_; intro gb220 hg w57 hbox hb; have BK220 := Aside0.mk (hbox); have GW220 := Kw_ HB hg; have GE220 := GW220; have NB208_220 := Kl_ BK208 hg; have NB220_208 := Kr_ BK208 hg; have NB209_220 := Kl_ BK209 hg; have NB220_209 := Kr_ BK209 hg; replace HO_209005 := Aside0.mk (Kd.R_below (Kd.R_elderB (Ku_ HO_209005) gb220 (Nat.le_of_eq hg.symm)) hb); replace BK208 := Kb_ BK208 hb; replace BK209 := Kb_ BK209 hb; replace HB := Ks_ HB hb; clear hb hbox hg; have hnb58 := NB209_208.out; have hnc58 := NB208_209.out; have hnb59 := NB209_220.out; have hnc59 := NB220_209.out; obtain ⟨hcz60_0, hcz60_1, hfz60_0, hfz60_1⟩ := Ke2_ BK209.out) | ((with_reducible refine gate_callee (f := 77) rfl ?_); refine Kg_ (some 31) rfl rfl Try.func77 (by kernel_rfl) rfl #[.agg #[.string x210000_1, .bool x210001_1], .int .i64 16] rfl ?_; (with_reducible refine (pack_Reader_Text.calls kj11 x210000_1 x210001_1 16 t221 t222 t223 _ A17.out).mono ?_); rintro e w61 ⟨rfl, hb⟩; refine ⟨_, rfl, ?_⟩; replace HO_209005 := Aside0.mk (Kd.R_below (Ku_ HO_209005) hb); replace BK208 := Kb_ BK208 hb; replace BK209 := Kb_ BK209 hb; replace BK220 := Kb_ BK220 hb; replace HB := Ks_ HB hb; (try clear hb); (try clear hb2); (try clear hk); (try clear hi); have hnb62 := NB220_208.out; have hnc62 := NB208_220.out; obtain ⟨hcz63_0, hcz63_1, hcz63_2, hcz63_3, hfz63_0, hfz63_1, hfz63_2, hfz63_3⟩ := Ke4_ BK220.out; obtain ⟨hcz64_0, hcz64_1, hfz64_0, hfz64_1⟩ := Ke2_ BK209.out) | ((with_reducible refine gate_callee (f := 77) rfl ?_); refine Kg_ (some 37) rfl rfl Try.func77 (by kernel_rfl) rfl #[.agg #[.string t222, .bool t223], .int .i64 16] rfl ?_; (with_reducible refine (pack_Reader_Text.calls kj11 t222 t223 16 t224 t225 t226 _ A18.out).mono ?_); rintro e w65 ⟨rfl, hb⟩; refine ⟨_, rfl, ?_⟩; replace HO_209005 := Aside0.mk (Kd.R_below (by (with_reducible repeat (first | apply Kd.R_alloc | apply Kd.R_drewN | apply Kd.R_drew)); exact (Kd.R_mono (Kd.R_mono (Kd.R_far (p := ⟨gb209, 1, none⟩) (Kd.R_far (p := ⟨gb209, 0, none⟩) (Kd.R_far (p := ⟨gb220, 0, none⟩) (Kd.R_types (Kd.R_mono HO_209005.out (fun k_ hk => (⟨hk, hk.2⟩ : _ ∧ k_ ≠ gb220))) BK209.out (by decide)) (fun _ hk => hk.1.2) (.string t221)) (fun _ hk => hk.2) (.string t222)) (fun _ hk => hk.2) (.bool t223)) (fun _ h_ => h_.1)) (fun _ h_ => h_.1))) hb); replace BK208 := Aside0.mk (blk_below (g := gb208) (o := .cells #[.int .u64 x209000_1, .int .u64 x209001_1, .int .u64 x209002_1, .int .u64 x209003_1, .int .i64 x209004_1, u209005] 33 (0, 0)) (K2b_ BK208 NB208_209 NB208_220) hb); replace BK209 := Aside0.mk (blk_below (g := gb209) (o := .cells #[.string t222, .bool t223] 134 (0, 0)) (by refine Kv_ ?_; refine blk_put (cs := #[.string t222, .bool x210001_1]) ?_ 1 _ rfl; refine Kv_ ?_; refine blk_put (cs := #[.string x210000_1, .bool x210001_1]) ?_ 0 _ rfl; exact K1b_ BK209 NB209_220) hb); replace BK220 := Aside0.mk (blk_below (g := gb220) (o := .cells #[.string t221, .string (⟨#[]⟩ : ByteArray), .string (⟨#[]⟩ : ByteArray), .bool false] 107 (0, 0)) (by (repeat (first | (with_reducible first | refine blk_drewN ?_ _ | refine blk_drew ?_ | refine blk_alloc ?_ _) | refine blk_far ?_ NB220_209.out _)); refine blk_put (cs := #[.string (⟨#[]⟩ : ByteArray), .string (⟨#[]⟩ : ByteArray), .string (⟨#[]⟩ : ByteArray), .bool false]) ?_ 0 _ rfl; exact Kq_ BK220) hb); replace HB := Aside0.mk (below_step (K3a_ HB GE208 GE209 GE220) hb); (try clear hb); (try clear hb2); (try clear hk); (try clear hi); obtain ⟨hcz66_0, hcz66_1, hcz66_2, hcz66_3, hfz66_0, hfz66_1, hfz66_2, hfz66_3⟩ := Ke4_ BK220.out; obtain ⟨hcz67_0, hcz67_1, hfz67_0, hfz67_1⟩ := Ke2_ BK209.out) | ((with_reducible refine gate_callee (f := 75) rfl ?_); refine Kg_ (some 43) rfl rfl Try.func75 (by kernel_rfl) rfl #[.agg #[.string t225, .bool t226], .int .i64 1] rfl ?_; (with_reducible refine (pack_Reader_Number.calls t225 t226 1 t227 t228 t229 _ A19.out).mono ?_); rintro e w68 ⟨rfl, hb⟩; refine ⟨_, rfl, ?_⟩; replace HO_209005 := Aside0.mk (Kd.R_below (by (with_reducible repeat (first | apply Kd.R_alloc | apply Kd.R_drewN | apply Kd.R_drew)); exact (Kd.R_mono (Kd.R_mono (Kd.R_far (p := ⟨gb209, 1, none⟩) (Kd.R_far (p := ⟨gb209, 0, none⟩) (Kd.R_far (p := ⟨gb220, 1, none⟩) (Kd.R_types (Kd.R_mono HO_209005.out (fun k_ hk => (⟨hk, hk.2⟩ : _ ∧ k_ ≠ gb220))) BK209.out (by decide)) (fun _ hk => hk.1.2) (.string t224)) (fun _ hk => hk.2) (.string t225)) (fun _ hk => hk.2) (.bool t226)) (fun _ h_ => h_.1)) (fun _ h_ => h_.1))) hb); replace BK208 := Aside0.mk (blk_below (g := gb208) (o := .cells #[.int .u64 x209000_1, .int .u64 x209001_1, .int .u64 x209002_1, .int .u64 x209003_1, .int .i64 x209004_1, u209005] 33 (0, 0)) (K2b_ BK208 NB208_209 NB208_220) hb); replace BK209 := Aside0.mk (blk_below (g := gb209) (o := .cells #[.string t225, .bool t226] 134 (0, 0)) (by refine Kv_ ?_; refine blk_put (cs := #[.string t225, .bool t223]) ?_ 1 _ rfl; refine Kv_ ?_; refine blk_put (cs := #[.string t222, .bool t223]) ?_ 0 _ rfl; exact K1b_ BK209 NB209_220) hb); replace BK220 := Aside0.mk (blk_below (g := gb220) (o := .cells #[.string t221, .string t224, .string (⟨#[]⟩ : ByteArray), .bool false] 107 (0, 0)) (by (repeat (first | (with_reducible first | refine blk_drewN ?_ _ | refine blk_drew ?_ | refine blk_alloc ?_ _) | refine blk_far ?_ NB220_209.out _)); refine blk_put (cs := #[.string t221, .string (⟨#[]⟩ : ByteArray), .string (⟨#[]⟩ : ByteArray), .bool false]) ?_ 1 _ rfl; exact Kq_ BK220) hb); replace HB := Aside0.mk (below_step (K3a_ HB GE208 GE209 GE220) hb); (try clear hb); (try clear hb2); (try clear hk); (try clear hi); obtain ⟨hcz69_0, hcz69_1, hfz69_0, hfz69_1⟩ := Ke2_ BK209.out; obtain ⟨hcz70_0, hcz70_1, hcz70_2, hcz70_3, hfz70_0, hfz70_1, hfz70_2, hfz70_3⟩ := Ke4_ BK220.out) | ((with_reducible refine gate_callee (f := 77) rfl ?_); refine Kg_ (some 57) rfl rfl Try.func77 (by kernel_rfl) rfl #[.agg #[.string t228, .bool t229], .int .i64 32] rfl ?_; (with_reducible refine (pack_Reader_Text.calls kj11 t228 t229 32 t233 t234 t235 _ A55.out).mono ?_); rintro e w71 ⟨rfl, hb⟩; refine ⟨_, rfl, ?_⟩; replace HO_209005 := Aside0.mk (Kd.R_below (by (with_reducible repeat (first | apply Kd.R_alloc | apply Kd.R_drewN | apply Kd.R_drew)); exact (Kd.R_mono (Kd.R_mono (Kd.R_far (p := ⟨gb220, 3, none⟩) (Kd.R_far (p := ⟨gb209, 1, none⟩) (Kd.R_far (p := ⟨gb209, 0, none⟩) (Kd.R_mono (Kd.R_types HO_209005.out BK209.out (by decide)) (fun k_ hk => (⟨hk, hk.1.2⟩ : _ ∧ k_ ≠ gb220))) (fun _ hk => hk.1.2) (.string t228)) (fun _ hk => hk.1.2) (.bool t229)) (fun _ hk => hk.2) (.bool false)) (fun _ h_ => h_.1)) (fun _ h_ => h_.1))) hb); replace BK208 := Aside0.mk (blk_below (g := gb208) (o := .cells #[.int .u64 x209000_1, .int .u64 x209001_1, .int .u64 x209002_1, .int .u64 x209003_1, .int .i64 x209004_1, u209005] 33 (0, 0)) (K2b_ BK208 NB208_220 NB208_209) hb); replace BK209 := Aside0.mk (blk_below (g := gb209) (o := .cells #[.string t228, .bool t229] 134 (0, 0)) (by (repeat (first | (with_reducible first | refine blk_drewN ?_ _ | refine blk_drew ?_ | refine blk_alloc ?_ _) | refine blk_far ?_ NB209_220.out _)); refine blk_put (cs := #[.string t228, .bool t226]) ?_ 1 _ rfl; refine Kv_ ?_; refine blk_put (cs := #[.string t225, .bool t226]) ?_ 0 _ rfl; exact Kq_ BK209) hb); replace BK220 := Aside0.mk (blk_below (g := gb220) (o := .cells #[.string t221, .string t224, .string (⟨#[]⟩ : ByteArray), .bool false] 107 (0, 0)) (by refine Kv_ ?_; refine blk_put (cs := #[.string t221, .string t224, .string (⟨#[]⟩ : ByteArray), .bool false]) ?_ 3 _ rfl; exact K1b_ BK220 NB220_209) hb); replace HB := Aside0.mk (below_step (K3a_ HB GE208 GE209 GE220) hb); (try clear hb); (try clear hb2); (try clear hk); (try clear hi); obtain ⟨hcz72_0, hcz72_1, hcz72_2, hcz72_3, hfz72_0, hfz72_1, hfz72_2, hfz72_3⟩ := Ke4_ BK220.out; obtain ⟨hcz73_0, hcz73_1, hfz73_0, hfz73_1⟩ := Ke2_ BK209.out; obtain ⟨hcz74_0, hcz74_1, hcz74_2, hcz74_3, hcz74_4, hcz74_5, hfz74_0, hfz74_1, hfz74_2, hfz74_3, hfz74_4, hfz74_5⟩ := Ke6_ BK208.out) | ((with_reducible refine gate_builtin (b := .append) (xs := #[.tmp 62, .tmp 64]) rfl ?_); at_builtin; refine Kd.R_append k107 (w0 := w) w.heap.size rfl (.tmp 62) (.tmp 64) 31 107 (.agg #[(.string ⟨#[]⟩), (.string ⟨#[]⟩), (.string ⟨#[]⟩), (.bool false)]) 56 rfl Try.underlying31 info107 rfl (by decide) (by omega) u209005 x209005_1 (⟨t221, t224, t233, false⟩ : S107) [.string t221, .string t224, .string t233, .bool false] (fun k_ => k_ ≠ gb220) (fun _ => False) rfl (by first | (go_simp; done) | (go_simp; rfl)) ?aP (fun _ hk => hk.elim) ?aF ?aO ?aB ?aS ?aL ?_; (case aP => exact k107_mkM _ _ _ (⟨t221, t224, t233, false⟩ : S107)); (case aB => exact (K3a_ HB GE208 GE209 GE220)); (case aF => exact (fun k_ hk => Kd.freshB (g := gb220) (o := .cells #[.string t221, .string t224, .string t233, .bool false] 107 (0, 0)) (by (repeat (first | (with_reducible first | refine blk_drewN ?_ _ | refine blk_drew ?_ | refine blk_alloc ?_ _) | refine blk_far ?_ NB220_209.out _)); refine blk_put (cs := #[.string t221, .string t224, .string (⟨#[]⟩ : ByteArray), .bool false]) ?_ 2 _ rfl; exact Kq_ BK220) k_ hk)); (case aO => exact (by (with_reducible repeat (first | apply Kd.R_alloc | apply Kd.R_drewN | apply Kd.R_drew)); exact Kd.R_mono (Kd.R_far (p := ⟨gb209, 1, none⟩) (Kd.R_far (p := ⟨gb209, 0, none⟩) (Kd.R_far (p := ⟨gb220, 2, none⟩) (Kd.R_types (Kd.R_mono HO_209005.out (fun k_ hk => (⟨hk, hk.2⟩ : _ ∧ k_ ≠ gb220))) BK209.out (by decide)) (fun _ hk => hk.1.2) (.string t233)) (fun _ hk => hk.2) (.string t234)) (fun _ hk => hk.2) (.bool t235)) (fun _ hk => hk.1.1.2))); (case aS => exact (below_size (K3a_ HB GE208 GE209 GE220))); (case aL => have := LMc56.out; omega); intro v237 w75 ho hb hg hat; rw [← Ny236.out] at ho; have HO238 := Aside0.mk (ho); replace BK208 := Aside0.mk (blk_grown (g := gb208) (o := .cells #[.int .u64 x209000_1, .int .u64 x209001_1, .int .u64 x209002_1, .int .u64 x209003_1, .int .i64 x209004_1, u209005] 33 (0, 0)) (K2b_ BK208 NB208_209 NB208_220) hg (Kd.R_ne HO_209005.out BK208.out (by decide))); replace BK209 := Aside0.mk (blk_grown (g := gb209) (o := .cells #[.string t234, .bool t235] 134 (0, 0)) (by refine Kv_ ?_; refine blk_put (cs := #[.string t234, .bool t229]) ?_ 1 _ rfl; refine Kv_ ?_; refine blk_put (cs := #[.string t228, .bool t229]) ?_ 0 _ rfl; exact K1b_ BK209 NB209_220) hg (Kd.R_ne HO_209005.out BK209.out (by decide))); replace BK220 := Aside0.mk (blk_grown (g := gb220) (o := .cells #[.string t221, .string t224, .string t233, .bool false] 107 (0, 0)) (by (repeat (first | (with_reducible first | refine blk_drewN ?_ _ | refine blk_drew ?_ | refine blk_alloc ?_ _) | refine blk_far ?_ NB220_209.out _)); refine blk_put (cs := #[.string t221, .string t224, .string (⟨#[]⟩ : ByteArray), .bool false]) ?_ 2 _ rfl; exact Kq_ BK220) hg (Kd.R_away HO_209005.out (fun _ hk => hk.2))); replace HB := Aside0.mk (hb); clear HO_209005; clear ho hb hg hat; obtain ⟨Ao76, co76, eo76⟩ := Kd.R_slice HO238.out; subst eo76; obtain ⟨hcz77_0, hcz77_1, hcz77_2, hcz77_3, hcz77_4, hcz77_5, hfz77_0, hfz77_1, hfz77_2, hfz77_3, hfz77_4, hfz77_5⟩ := Ke6_ BK208.out))
          go_roundg kj11
          case measure => have := HK1.out; have := HJ11.out; omega
          case rel => exact ⟨(IntKind.u64.wrap (x4_1 - 1)), (x209000_1), (x209001_1), (x209002_1), (x209003_1), (x209004_1), (y236), (t234), (t235), (.slice Ao76 y236.length co76), (by first | rfl | (simp; done) | (simp [*]; done)), H', ⟨by have := HK1.out; have := HJ11.out; omega⟩, ⟨by (with_reducible repeat (first | apply Kd.R_alloc | apply Kd.R_drewN | apply Kd.R_drew)); exact Kd.R_mono (Kd.R_far (p := ⟨gb208, 5, none⟩) (Kd.R_types HO238.out BK208.out (by decide)) (fun _ hk => hk.2) (.slice Ao76 y236.length co76)) (fun _ hk => trivial)⟩, ⟨by refine Kv_ ?_; refine blk_put (cs := #[.int .u64 x209000_1, .int .u64 x209001_1, .int .u64 x209002_1, .int .u64 x209003_1, .int .i64 x209004_1, u209005]) ?_ 5 _ rfl; exact Kq_ BK208⟩, ⟨by exact K1b_ BK209 NB209_208⟩, ⟨K3a_ HB GE208 GE209 GE220⟩⟩
end Go.Proofs.Ytoagfdpgnfinhaa.Q
