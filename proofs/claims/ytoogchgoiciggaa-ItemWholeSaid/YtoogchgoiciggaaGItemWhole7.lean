import Derived.Test.YtoogchgoiciggaaGItemWhole2
import Derived.Test.YtoogchgoiciggaaGItemWhole3
import Derived.Test.YtoogchgoiciggaaGItemWhole4
import Derived.Test.YtoogchgoiciggaaGItemWhole5
namespace Go.Proofs.Ytoogchgoiciggaa.Q
open Go.RowKit Go.Proofs.YtoogchgoiciggaaW.PrintWords Go.Proofs.YtoogchgoiciggaaW.PrintLast Go.Proofs.YtoogchgoiciggaaW.PrintMore
attribute [local go_sem] max2_int min2_int max_two min_two max_three min_three max_four min_four   -- for this text's walks alone
set_option linter.unusedVariables false
set_option linter.unusedSimpArgs false
mutual
def item_Read.l0 : Nat → Int → Int → Int → Int → Int → Int → List (S23) → ByteArray → Bool → Option (Int × Int × Int × Int × Int × (List (S23)) × Bool)
 | 0, _, _, _, _, _, _, _, _, _ => none
 | k + 1, x4, x105, x104, x103, x102, x101, x100, x107, x106 => if x4 > 0 then (item_Read.j1 k x4 (!x106) x105 x104 x103 x102 x101 x100 x107 x106) else (item_Read.j1 k x4 false x105 x104 x103 x102 x101 x100 x107 x106)
def item_Read.j1 : Nat → Int → Bool → Int → Int → Int → Int → Int → List (S23) → ByteArray → Bool → Option (Int × Int × Int × Int × Int × (List (S23)) × Bool)
 | 0, _, _, _, _, _, _, _, _, _, _ => none
 | k + 1, x4, x26, x105, x104, x103, x102, x101, x100, x107, x106 => if x26 = true then ((pack_Reader_Text.f k x107 x106 16).bind fun bt199 => ((pack_Reader_Text.f k bt199.2.1 bt199.2.2 16).bind fun bt202 => ((pack_Reader_Number.f bt202.2.1 bt202.2.2 1).bind fun bt205 => (if bt205.1 > 1 then (some (0, 0, 0, 0, 0, ([] : List (S23)), false)) else (if bt205.1 = 1 then (if x100.length < 2513169434916 then (item_Read.l0 k (IntKind.u64.wrap (x4 - 1)) x105 x104 x103 x102 x101 (x100 ++ [(⟨bt199.1, bt202.1, (⟨#[]⟩ : ByteArray), (bt205.1 == 1)⟩ : S23)]) bt205.2.1 bt205.2.2) else (none)) else ((pack_Reader_Text.f k bt205.2.1 bt205.2.2 32).bind fun bt211 => (if x100.length < 2513169434916 then (item_Read.l0 k (IntKind.u64.wrap (x4 - 1)) x105 x104 x103 x102 x101 (x100 ++ [(⟨bt199.1, bt202.1, bt211.1, (bt205.1 == 1)⟩ : S23)]) bt211.2.1 bt211.2.2) else (none)))))))) else ((pack_Reader_Done.f x107 x106).bind fun t217 => (if t217 = true then ((item_Whole.f x105 x104 x103 x102 x101 x100).bind fun t218 => (if t218 = true then (some (x105, x104, x103, x102, x101, x100, true)) else (some (0, 0, 0, 0, 0, ([] : List (S23)), false)))) else (some (0, 0, 0, 0, 0, ([] : List (S23)), false))))
end
def item_Read.f (k : Nat) (a0 : ByteArray) : Option (Int × Int × Int × Int × Int × (List (S23)) × Bool) := (stamp_Get.f k a0 false).bind fun bt188 => ((pack_Reader_Number.f bt188.2.2.2.2.2.1 bt188.2.2.2.2.2.2 1).bind fun bt195 => (item_Read.l0 k bt195.1 bt188.1 bt188.2.1 bt188.2.2.1 bt188.2.2.2.1 bt188.2.2.2.2.1 ([] : List (S23)) bt195.2.1 bt195.2.2))
theorem item_Read.mono_l : ∀ k, (∀ y0 y1 y2 y3 y4 y5 y6 y7 y8, LeO (item_Read.l0 k y0 y1 y2 y3 y4 y5 y6 y7 y8) (item_Read.l0 (k + 1) y0 y1 y2 y3 y4 y5 y6 y7 y8)) ∧ (∀ y0 y1 y2 y3 y4 y5 y6 y7 y8 y9, LeO (item_Read.j1 k y0 y1 y2 y3 y4 y5 y6 y7 y8 y9) (item_Read.j1 (k + 1) y0 y1 y2 y3 y4 y5 y6 y7 y8 y9))
 | 0 => ⟨fun _ _ _ _ _ _ _ _ _ r h => by simp [item_Read.l0] at h, fun _ _ _ _ _ _ _ _ _ _ r h => by simp [item_Read.j1] at h⟩
 | k + 1 => by
  obtain ⟨ih0, ih1⟩ := item_Read.mono_l k
  refine ⟨?_, ?_⟩
  ·intro y0 y1 y2 y3 y4 y5 y6 y7 y8
   unfold item_Read.l0
   repeat' first
   | (with_reducible exact ih0 _ _ _ _ _ _ _ _ _)
   | (with_reducible exact ih1 _ _ _ _ _ _ _ _ _ _)
   | (with_reducible exact pack_Reader_Text.mono _ _ _ _)
   | (with_reducible exact stamp_Get.mono _ _ _)
   | (with_reducible exact LeO.refl _)
   | (with_reducible exact LeO.none _)
   | (with_reducible refine LeO.ite ?_ ?_)
   | (with_reducible refine LeO.bind ?_ (fun _ => ?_))
   | exact ih0 _ _ _ _ _ _ _ _ _
   | exact ih1 _ _ _ _ _ _ _ _ _ _
   | exact pack_Reader_Text.mono _ _ _ _
   | exact stamp_Get.mono _ _ _
   | exact LeO.none _
   | refine LeO.ite ?_ ?_
   | refine LeO.bind ?_ (fun _ => ?_)
  ·intro y0 y1 y2 y3 y4 y5 y6 y7 y8 y9
   unfold item_Read.j1
   repeat' first
   | (with_reducible exact ih0 _ _ _ _ _ _ _ _ _)
   | (with_reducible exact ih1 _ _ _ _ _ _ _ _ _ _)
   | (with_reducible exact pack_Reader_Text.mono _ _ _ _)
   | (with_reducible exact stamp_Get.mono _ _ _)
   | (with_reducible exact LeO.refl _)
   | (with_reducible exact LeO.none _)
   | (with_reducible refine LeO.ite ?_ ?_)
   | (with_reducible refine LeO.bind ?_ (fun _ => ?_))
   | exact ih0 _ _ _ _ _ _ _ _ _
   | exact ih1 _ _ _ _ _ _ _ _ _ _
   | exact pack_Reader_Text.mono _ _ _ _
   | exact stamp_Get.mono _ _ _
   | exact LeO.none _
   | refine LeO.ite ?_ ?_
   | refine LeO.bind ?_ (fun _ => ?_)
theorem item_Read.mono : ∀ a0 k, LeO (item_Read.f k a0) (item_Read.f (k + 1) a0) := by
 intro a0 k
 obtain ⟨ih0, ih1⟩ := item_Read.mono_l k
 unfold item_Read.f
 repeat' first
   | (with_reducible exact ih0 _ _ _ _ _ _ _ _ _)
   | (with_reducible exact ih1 _ _ _ _ _ _ _ _ _ _)
   | (with_reducible exact pack_Reader_Text.mono _ _ _ _)
   | (with_reducible exact stamp_Get.mono _ _ _)
   | (with_reducible exact LeO.refl _)
   | (with_reducible exact LeO.none _)
   | (with_reducible refine LeO.ite ?_ ?_)
   | (with_reducible refine LeO.bind ?_ (fun _ => ?_))
   | exact ih0 _ _ _ _ _ _ _ _ _
   | exact ih1 _ _ _ _ _ _ _ _ _ _
   | exact pack_Reader_Text.mono _ _ _ _
   | exact stamp_Get.mono _ _ _
   | exact LeO.none _
   | refine LeO.ite ?_ ?_
   | refine LeO.bind ?_ (fun _ => ?_)
set_option maxHeartbeats 8000000 in
set_option maxRecDepth 100000 in
theorem item_Read.calls (k : Nat) (a0 : ByteArray) (r1 : Int) (r2 : Int) (r3 : Int) (r4 : Int) (r5 : Int) (r6 : List (S23)) (r7 : Bool) (w : World) (h : item_Read.f k a0 = some (r1, r2, r3, r4, r5, r6, r7)) :
  Calls Try.prog 31 #[.string a0] w fun e w' => ∃ v5_ : Value, e = .returned (.tuple #[.agg #[.int .u64 r1, .int .u64 r2, .int .u64 r3, .int .u64 r4, .int .i64 r5, v5_], .bool r7]) ∧ Kd.R k23 23 w' w.heap.size (fun _ => True) v5_ r6 ∧ Below w.heap.size w w' := by
 have hu43 := Try.underlying43
 have hu97 := Try.underlying97
 have hu30 := Try.underlying30
 have hu23 := Try.underlying23
 have HB := Aside0.mk (Below.refl w.heap.size w)
 have H : ((stamp_Get.f k a0 false).bind fun bt188 => ((pack_Reader_Number.f bt188.2.2.2.2.2.1 bt188.2.2.2.2.2.2 1).bind fun bt195 => (item_Read.l0 k bt195.1 bt188.1 bt188.2.1 bt188.2.2.1 bt188.2.2.2.1 bt188.2.2.2.2.1 ([] : List (S23)) bt195.2.1 bt195.2.2))) = some (r1, r2, r3, r4, r5, r6, r7) := h
 clear h
 replace H := Option.bind_eq_some_iff.mp H
 obtain ⟨⟨t188, t189, t190, t191, t192, t193, t194⟩, A20, H⟩ := H
 replace H : ((pack_Reader_Number.f t193 t194 1).bind fun bt195 => (item_Read.l0 k bt195.1 t188 t189 t190 t191 t192 ([] : List (S23)) bt195.2.1 bt195.2.2)) = some (r1, r2, r3, r4, r5, r6, r7) := H
 have A2 := Aside0.mk A20
 clear A20
 replace H := Option.bind_eq_some_iff.mp H
 obtain ⟨⟨t195, t196, t197⟩, A30, H⟩ := H
 replace H : (item_Read.l0 k t195 t188 t189 t190 t191 t192 ([] : List (S23)) t196 t197) = some (r1, r2, r3, r4, r5, r6, r7) := H
 have A3 := Aside0.mk A30
 clear A30
 have H' := Aside0.mk H
 clear H
 go_enter Try.func31, Try.ntmps31
 go_wp2_with (first | ((with_reducible refine gate_dst (N := 2) rfl ?_); refine Ka_ 2 #[.int .u64 0, .int .u64 0, .int .u64 0, .int .u64 0, .int .i64 0, .slice none 0 0] 43 ?_; intro gb186 hg w4 hbox hb; have BK186 := Aside0.mk (hbox); have GW186 := Kw_ HB hg; have GE186 := GW186; replace HB := Ks_ HB hb; clear hb hbox hg) | ((with_reducible refine gate_dst (N := 6) rfl ?_); refine Ka_ 6 #[.string (⟨#[]⟩ : ByteArray), .bool false] 97 ?_; intro gb187 hg w5 hbox hb; have BK187 := Aside0.mk (hbox); have GW187 := Kw_ HB hg; have GE187 := GW187; have NB186_187 := Kl_ BK186 hg; have NB187_186 := Kr_ BK186 hg; replace BK186 := Kb_ BK186 hb; replace HB := Ks_ HB hb; clear hb hbox hg) | ((with_reducible refine gate_callee (f := 52) rfl ?_); refine Kg_ (some 11) rfl rfl Try.func52 (by kernel_rfl) rfl #[.agg #[.string a0, .bool false]] rfl ?_; (with_reducible refine (stamp_Get.calls k a0 false t188 t189 t190 t191 t192 t193 t194 _ A2.out).mono ?_); rintro e w6 ⟨rfl, hb⟩; refine ⟨_, rfl, ?_⟩; replace BK186 := Kb_ BK186 hb; replace BK187 := Kb_ BK187 hb; replace HB := Ks_ HB hb; (try clear hb); (try clear hb2); (try clear hk); (try clear hi); have hnb7 := NB186_187.out; have hnc7 := NB187_186.out; obtain ⟨hcz8_0, hcz8_1, hcz8_2, hcz8_3, hcz8_4, hcz8_5, hfz8_0, hfz8_1, hfz8_2, hfz8_3, hfz8_4, hfz8_5⟩ := Ke6_ BK186.out; obtain ⟨hcz9_0, hcz9_1, hfz9_0, hfz9_1⟩ := Ke2_ BK187.out) | ((with_reducible refine gate_callee (f := 53) rfl ?_); refine Kg_ (some 17) rfl rfl Try.func53 (by kernel_rfl) rfl #[.agg #[.string t193, .bool t194], .int .i64 1] rfl ?_; (with_reducible refine (pack_Reader_Number.calls t193 t194 1 t195 t196 t197 _ A3.out).mono ?_); rintro e w10 ⟨rfl, hb⟩; refine ⟨_, rfl, ?_⟩; replace BK186 := Aside0.mk (blk_below (g := gb186) (o := .cells #[.int .u64 t188, .int .u64 t189, .int .u64 t190, .int .u64 t191, .int .i64 t192, .slice none 0 0] 43 (0, 0)) (by (repeat (first | (with_reducible first | refine blk_drewN ?_ _ | refine blk_drew ?_ | refine blk_alloc ?_ _) | refine blk_far ?_ NB186_187.out _)); refine blk_put (cs := #[.int .u64 t188, .int .u64 t189, .int .u64 t190, .int .u64 t191, .int .i64 0, .slice none 0 0]) ?_ 4 _ rfl; refine Kv_ ?_; refine blk_put (cs := #[.int .u64 t188, .int .u64 t189, .int .u64 t190, .int .u64 0, .int .i64 0, .slice none 0 0]) ?_ 3 _ rfl; refine Kv_ ?_; refine blk_put (cs := #[.int .u64 t188, .int .u64 t189, .int .u64 0, .int .u64 0, .int .i64 0, .slice none 0 0]) ?_ 2 _ rfl; refine Kv_ ?_; refine blk_put (cs := #[.int .u64 t188, .int .u64 0, .int .u64 0, .int .u64 0, .int .i64 0, .slice none 0 0]) ?_ 1 _ rfl; refine Kv_ ?_; refine blk_put (cs := #[.int .u64 0, .int .u64 0, .int .u64 0, .int .u64 0, .int .i64 0, .slice none 0 0]) ?_ 0 _ rfl; exact Kq_ BK186) hb); replace BK187 := Aside0.mk (blk_below (g := gb187) (o := .cells #[.string t193, .bool t194] 97 (0, 0)) (by refine Kv_ ?_; refine blk_put (cs := #[.string t193, .bool false]) ?_ 1 _ rfl; refine Kv_ ?_; refine blk_put (cs := #[.string (⟨#[]⟩ : ByteArray), .bool false]) ?_ 0 _ rfl; exact K1b_ BK187 NB187_186) hb); replace HB := Aside0.mk (below_step (K2a_ HB GE186 GE187) hb); (try clear hb); (try clear hb2); (try clear hk); (try clear hi); obtain ⟨hcz11_0, hcz11_1, hfz11_0, hfz11_1⟩ := Ke2_ BK187.out))
 go_loopg [4] k (fun kq v4 w' => ∃ (x4_1 : Int) (x105_1 : Int) (x104_1 : Int) (x103_1 : Int) (x102_1 : Int) (x101_1 : Int) (x100_1 : List (S23)) (x107_1 : ByteArray) (x106_1 : Bool) (u187005 : Value), v4 = .int .u64 x4_1 ∧ Aside0 (item_Read.l0 kq x4_1 x105_1 x104_1 x103_1 x102_1 x101_1 x100_1 x107_1 x106_1 = some (r1, r2, r3, r4, r5, r6, r7)) ∧ Aside0 (kq ≤ k) ∧ Aside0 (Kd.R k23 23 w' w.heap.size (fun _ => True) u187005 x100_1) ∧ Aside0 (w'.heap[gb186]? = some (.cells #[.int .u64 x105_1, .int .u64 x104_1, .int .u64 x103_1, .int .u64 x102_1, .int .i64 x101_1, u187005] 43 (0, 0))) ∧ Aside0 (w'.heap[gb187]? = some (.cells #[.string x107_1, .bool x106_1] 97 (0, 0))) ∧ Aside0 (Below w.heap.size w w'))
 case atStart => exact ⟨(t195), (t188), (t189), (t190), (t191), (t192), (([] : List (S23))), (t196), (t197), (.slice none 0 0), (by first | rfl | (simp; done) | (simp [*]; done)), H', ⟨Nat.le_refl _⟩, ⟨by first | exact Kd.R_nil _ _ _ _ _ | exact Kd.N_nil _ _ _ _ _ | exact Kd.V_nil _ _ _ _ _ | exact Kd.Q_nil _ _ _ _ _ | exact Kd.S_nil _ _ _ _ _⟩, ⟨by exact K1b_ BK186 NB186_187⟩, ⟨by refine Kv_ ?_; refine blk_put (cs := #[.string t196, .bool t194]) ?_ 1 _ rfl; refine Kv_ ?_; refine blk_put (cs := #[.string t193, .bool t194]) ?_ 0 _ rfl; exact Kq_ BK187⟩, ⟨K2a_ HB GE186 GE187⟩⟩
 case round =>
  clear H'
  try clear p2
  try clear c3
  try clear c5
  try clear c7
  try clear hcz11_0
  try clear hcz11_1
  try clear hcz8_0
  try clear hcz8_1
  try clear hcz8_2
  try clear hcz8_3
  try clear hcz8_4
  try clear hcz8_5
  try clear hcz9_0
  try clear hcz9_1
  try clear hfz11_0
  try clear hfz11_1
  try clear hfz8_0
  try clear hfz8_1
  try clear hfz8_2
  try clear hfz8_3
  try clear hfz8_4
  try clear hfz8_5
  try clear hfz9_0
  try clear hfz9_1
  obtain ⟨x4_1, x105_1, x104_1, x103_1, x102_1, x101_1, x100_1, x107_1, x106_1, u187005, rfl, HA, HK1, HO_100, BK186, BK187, HB⟩ := hrel
  cases gk with
  | zero => exact absurd HA.out (by simp [item_Read.l0])
  | succ k1 =>
   have H := HA.out
   clear HA
   simp only [item_Read.l0] at H
   have HC12 := Aside0.mk H
   clear H
   go_upto_region 5 with (fail)
   go_cut [26] (fun v26 wc => ∃ (kq : Nat) (x26_11 : Bool), v26 = .bool x26_11 ∧ Aside0 (item_Read.j1 kq x4_1 x26_11 x105_1 x104_1 x103_1 x102_1 x101_1 x100_1 x107_1 x106_1 = some (r1, r2, r3, r4, r5, r6, r7)) ∧ Aside0 (kq ≤ k1) ∧ Aside0 (Kd.R k23 23 wc w.heap.size (fun _ => True) u187005 x100_1) ∧ Aside0 (wc.heap[gb186]? = some (.cells #[.int .u64 x105_1, .int .u64 x104_1, .int .u64 x103_1, .int .u64 x102_1, .int .i64 x101_1, u187005] 43 (0, 0))) ∧ Aside0 (wc.heap[gb187]? = some (.cells #[.string x107_1, .bool x106_1] 97 (0, 0))) ∧ Aside0 (Below w.heap.size w wc))
   case first =>
    have H := HC12.out
    clear HC12
    by_cases c13 : x4_1 > 0
    rotate_left
    ·rw [if_neg c13] at H
     have c13b0 : decide (0 < x4_1) = false := decide_eq_false c13
     clear c13
     (first | rw [c13b0] | (simp only [i64_w, i32_w]; rw [c13b0]) | skip)
     have H' := Aside0.mk H
     clear H
     go_wp2
     go_meet
     case rel => exact ⟨_, (false), (by first | rfl | (simp; done) | (simp [*]; done)), H', ⟨by have := HK1.out; first | omega | exact Nat.le_refl _⟩, ⟨by (with_reducible repeat (first | apply Kd.R_alloc | apply Kd.R_drewN | apply Kd.R_drew)); exact HO_100.out⟩, ⟨by exact Kq_ BK186⟩, ⟨by exact Kq_ BK187⟩, ⟨K2a_ HB GE186 GE187⟩⟩
    rw [if_pos c13] at H
    have c13b0 : decide (0 < x4_1) = true := decide_eq_true c13
    clear c13
    (first | rw [c13b0] | (simp only [i64_w, i32_w]; rw [c13b0]) | skip)
    have H' := Aside0.mk H
    clear H
    have hnb14 := NB187_186.out
    have hnc14 := NB186_187.out
    obtain ⟨hcz15_0, hcz15_1, hfz15_0, hfz15_1⟩ := Ke2_ BK187.out
    go_wp2
    go_meet
    case rel => exact ⟨_, (!x106_1), (by first | rfl | (simp; done) | (simp [*]; done)), H', ⟨by have := HK1.out; first | omega | exact Nat.le_refl _⟩, ⟨by (with_reducible repeat (first | apply Kd.R_alloc | apply Kd.R_drewN | apply Kd.R_drew)); exact HO_100.out⟩, ⟨by exact Kq_ BK186⟩, ⟨by exact Kq_ BK187⟩, ⟨K2a_ HB GE186 GE187⟩⟩
   case rest =>
    clear HC12
    try clear c1
    try clear p2
    try clear c3
    try clear c5
    try clear c7
    try clear c13
    try clear c13b0
    try clear c14
    try clear hcz11_0
    try clear hcz11_1
    try clear hcz15_0
    try clear hcz15_1
    try clear hcz8_0
    try clear hcz8_1
    try clear hcz8_2
    try clear hcz8_3
    try clear hcz8_4
    try clear hcz8_5
    try clear hcz9_0
    try clear hcz9_1
    try clear hfz11_0
    try clear hfz11_1
    try clear hfz15_0
    try clear hfz15_1
    try clear hfz8_0
    try clear hfz8_1
    try clear hfz8_2
    try clear hfz8_3
    try clear hfz8_4
    try clear hfz8_5
    try clear hfz9_0
    try clear hfz9_1
    try clear p2
    obtain ⟨kq, x26_11, rfl, HA, HJ11, HO_100, BK186, BK187, HB⟩ := hcut
    cases kq with
    | zero => exact absurd HA.out (by simp [item_Read.j1])
    | succ kj11 =>
     have H := HA.out
     clear HA
     simp only [item_Read.j1] at H
     by_cases c16 : x26_11 = true
     rotate_left
     ·replace c16 := Bool.eq_false_iff.mpr c16
      subst c16
      have H1 : ((pack_Reader_Done.f x107_1 x106_1).bind fun t217 => (if t217 = true then ((item_Whole.f x105_1 x104_1 x103_1 x102_1 x101_1 x100_1).bind fun t218 => (if t218 = true then (some (x105_1, x104_1, x103_1, x102_1, x101_1, x100_1, true)) else (some (0, 0, 0, 0, 0, ([] : List (S23)), false)))) else (some (0, 0, 0, 0, 0, ([] : List (S23)), false)))) = some (r1, r2, r3, r4, r5, r6, r7) := by rw [if_neg (show ¬ (false = true) by decide)] at H; exact H
      clear H
      have H := H1
      clear H1
      replace H := Option.bind_eq_some_iff.mp H
      obtain ⟨t217, A780, H⟩ := H
      replace H : (if t217 = true then ((item_Whole.f x105_1 x104_1 x103_1 x102_1 x101_1 x100_1).bind fun t218 => (if t218 = true then (some (x105_1, x104_1, x103_1, x102_1, x101_1, x100_1, true)) else (some (0, 0, 0, 0, 0, ([] : List (S23)), false)))) else (some (0, 0, 0, 0, 0, ([] : List (S23)), false))) = some (r1, r2, r3, r4, r5, r6, r7) := H
      have A78 := Aside0.mk A780
      clear A780
      by_cases c79 : t217 = true
      rotate_left
      ·replace c79 := Bool.eq_false_iff.mpr c79
       subst c79
       have H1 : (some (0, 0, 0, 0, 0, ([] : List (S23)), false)) = some (r1, r2, r3, r4, r5, r6, r7) := by rw [if_neg (show ¬ (false = true) by decide)] at H; exact H
       clear H
       have H := H1
       clear H1
       simp only [Option.some.injEq, Prod.mk.injEq] at H
       obtain ⟨rfl, rfl, rfl, rfl, rfl, rfl, rfl⟩ := H
       have hnb96 := NB187_186.out
       have hnc96 := NB186_187.out
       obtain ⟨hcz97_0, hcz97_1, hfz97_0, hfz97_1⟩ := Ke2_ BK187.out
       go_wp2_with (first | ((with_reducible refine gate_callee (f := 55) rfl ?_); refine Kg_ (some 68) rfl rfl Try.func55 (by kernel_rfl) rfl #[.agg #[.string x107_1, .bool x106_1]] rfl ?_; (with_reducible refine (pack_Reader_Done.calls x107_1 x106_1 false _ A78.out).mono ?_); rintro e w98 ⟨rfl, hb⟩; refine ⟨_, rfl, ?_⟩; replace HO_100 := Aside0.mk (Kd.R_below (Ku_ HO_100) hb); replace BK186 := Kb_ BK186 hb; replace BK187 := Kb_ BK187 hb; replace HB := Ks_ HB hb; (try clear hb); (try clear hb2); (try clear hk); (try clear hi); obtain ⟨hcz99_0, hcz99_1, hcz99_2, hcz99_3, hcz99_4, hcz99_5, hfz99_0, hfz99_1, hfz99_2, hfz99_3, hfz99_4, hfz99_5⟩ := Ke6_ BK186.out))
       refine bodyPost_ret (results_ct rfl _ _ gb186 43 #[.int .u64 0, .int .u64 0, .int .u64 0, .int .u64 0, .int .i64 0, .slice none 0 0] (0, 0) _ rfl (by refine Kv_ ?_; refine blk_put (cs := #[.int .u64 0, .int .u64 0, .int .u64 0, .int .u64 0, .int .i64 0, u187005]) ?_ 5 _ rfl; refine Kv_ ?_; refine blk_put (cs := #[.int .u64 0, .int .u64 0, .int .u64 0, .int .u64 0, .int .i64 x101_1, u187005]) ?_ 4 _ rfl; refine Kv_ ?_; refine blk_put (cs := #[.int .u64 0, .int .u64 0, .int .u64 0, .int .u64 x102_1, .int .i64 x101_1, u187005]) ?_ 3 _ rfl; refine Kv_ ?_; refine blk_put (cs := #[.int .u64 0, .int .u64 0, .int .u64 x103_1, .int .u64 x102_1, .int .i64 x101_1, u187005]) ?_ 2 _ rfl; refine Kv_ ?_; refine blk_put (cs := #[.int .u64 0, .int .u64 x104_1, .int .u64 x103_1, .int .u64 x102_1, .int .i64 x101_1, u187005]) ?_ 1 _ rfl; refine Kv_ ?_; refine blk_put (cs := #[.int .u64 x105_1, .int .u64 x104_1, .int .u64 x103_1, .int .u64 x102_1, .int .i64 x101_1, u187005]) ?_ 0 _ rfl; exact Kq_ BK186) Try.underlying43 rfl (by kernel_rfl)) rfl ?_
       exact ⟨_, by first | rfl | (simp [errW_none, errW_some] <;> rfl) | (simp [*, errW_none, errW_some] <;> rfl), by first | exact Kd.R_nil _ _ _ _ _ | exact Kd.N_nil _ _ _ _ _ | exact Kd.V_nil _ _ _ _ _ | exact Kd.Q_nil _ _ _ _ _ | exact Kd.S_nil _ _ _ _ _, K2a_ HB GE186 GE187⟩
      subst c79
      have H1 : ((item_Whole.f x105_1 x104_1 x103_1 x102_1 x101_1 x100_1).bind fun t218 => (if t218 = true then (some (x105_1, x104_1, x103_1, x102_1, x101_1, x100_1, true)) else (some (0, 0, 0, 0, 0, ([] : List (S23)), false)))) = some (r1, r2, r3, r4, r5, r6, r7) := by rw [if_pos rfl] at H; exact H
      clear H
      have H := H1
      clear H1
      replace H := Option.bind_eq_some_iff.mp H
      obtain ⟨t218, A800, H⟩ := H
      replace H : (if t218 = true then (some (x105_1, x104_1, x103_1, x102_1, x101_1, x100_1, true)) else (some (0, 0, 0, 0, 0, ([] : List (S23)), false))) = some (r1, r2, r3, r4, r5, r6, r7) := H
      have A80 := Aside0.mk A800
      clear A800
      by_cases c81 : t218 = true
      rotate_left
      ·replace c81 := Bool.eq_false_iff.mpr c81
       subst c81
       have H1 : (some (0, 0, 0, 0, 0, ([] : List (S23)), false)) = some (r1, r2, r3, r4, r5, r6, r7) := by rw [if_neg (show ¬ (false = true) by decide)] at H; exact H
       clear H
       have H := H1
       clear H1
       simp only [Option.some.injEq, Prod.mk.injEq] at H
       obtain ⟨rfl, rfl, rfl, rfl, rfl, rfl, rfl⟩ := H
       have hnb89 := NB187_186.out
       have hnc89 := NB186_187.out
       obtain ⟨hcz90_0, hcz90_1, hfz90_0, hfz90_1⟩ := Ke2_ BK187.out
       go_wp2_with (first | ((with_reducible refine gate_callee (f := 55) rfl ?_); refine Kg_ (some 68) rfl rfl Try.func55 (by kernel_rfl) rfl #[.agg #[.string x107_1, .bool x106_1]] rfl ?_; (with_reducible refine (pack_Reader_Done.calls x107_1 x106_1 true _ A78.out).mono ?_); rintro e w91 ⟨rfl, hb⟩; refine ⟨_, rfl, ?_⟩; replace HO_100 := Aside0.mk (Kd.R_below (Ku_ HO_100) hb); replace BK186 := Kb_ BK186 hb; replace BK187 := Kb_ BK187 hb; replace HB := Ks_ HB hb; (try clear hb); (try clear hb2); (try clear hk); (try clear hi); obtain ⟨hcz92_0, hcz92_1, hcz92_2, hcz92_3, hcz92_4, hcz92_5, hfz92_0, hfz92_1, hfz92_2, hfz92_3, hfz92_4, hfz92_5⟩ := Ke6_ BK186.out; obtain ⟨Ao93, co93, eo93⟩ := Kd.R_slice HO_100.out; subst eo93) | (go_at_call 22; (with_reducible refine (item_Whole.calls x105_1 x104_1 x103_1 x102_1 x101_1 _ _ x100_1 false _ ?side1 ?side2 A80.out).mono ?_); (case side1 => repeat (first | exact (Kd.R_reads' HO_100.out).2.2 | (with_reducible refine Kd.C_alloc ?_ _) | (with_reducible refine Kd.C_drewN ?_ _) | (with_reducible refine Kd.C_drew ?_))); (case side2 => exact (Kd.R_reads' HO_100.out).2.1); rintro e w94 ⟨rfl, hb⟩; replace HO_100 := Aside0.mk (Kd.R_below (Ku_ HO_100) hb); replace BK186 := Kb_ BK186 hb; replace BK187 := Kb_ BK187 hb; replace HB := Ks_ HB hb; (try clear hb); (try clear hb2); (try clear hk); (try clear hi); obtain ⟨hcz95_0, hcz95_1, hcz95_2, hcz95_3, hcz95_4, hcz95_5, hfz95_0, hfz95_1, hfz95_2, hfz95_3, hfz95_4, hfz95_5⟩ := Ke6_ BK186.out))
       refine bodyPost_ret (results_ct rfl _ _ gb186 43 #[.int .u64 0, .int .u64 0, .int .u64 0, .int .u64 0, .int .i64 0, .slice none 0 0] (0, 0) _ rfl (by refine Kv_ ?_; refine blk_put (cs := #[.int .u64 0, .int .u64 0, .int .u64 0, .int .u64 0, .int .i64 0, .slice Ao93 x100_1.length co93]) ?_ 5 _ rfl; refine Kv_ ?_; refine blk_put (cs := #[.int .u64 0, .int .u64 0, .int .u64 0, .int .u64 0, .int .i64 x101_1, .slice Ao93 x100_1.length co93]) ?_ 4 _ rfl; refine Kv_ ?_; refine blk_put (cs := #[.int .u64 0, .int .u64 0, .int .u64 0, .int .u64 x102_1, .int .i64 x101_1, .slice Ao93 x100_1.length co93]) ?_ 3 _ rfl; refine Kv_ ?_; refine blk_put (cs := #[.int .u64 0, .int .u64 0, .int .u64 x103_1, .int .u64 x102_1, .int .i64 x101_1, .slice Ao93 x100_1.length co93]) ?_ 2 _ rfl; refine Kv_ ?_; refine blk_put (cs := #[.int .u64 0, .int .u64 x104_1, .int .u64 x103_1, .int .u64 x102_1, .int .i64 x101_1, .slice Ao93 x100_1.length co93]) ?_ 1 _ rfl; refine Kv_ ?_; refine blk_put (cs := #[.int .u64 x105_1, .int .u64 x104_1, .int .u64 x103_1, .int .u64 x102_1, .int .i64 x101_1, .slice Ao93 x100_1.length co93]) ?_ 0 _ rfl; exact Kq_ BK186) Try.underlying43 rfl (by kernel_rfl)) rfl ?_
       exact ⟨_, by first | rfl | (simp [errW_none, errW_some] <;> rfl) | (simp [*, errW_none, errW_some] <;> rfl), by first | exact Kd.R_nil _ _ _ _ _ | exact Kd.N_nil _ _ _ _ _ | exact Kd.V_nil _ _ _ _ _ | exact Kd.Q_nil _ _ _ _ _ | exact Kd.S_nil _ _ _ _ _, K2a_ HB GE186 GE187⟩
      subst c81
      have H1 : (some (x105_1, x104_1, x103_1, x102_1, x101_1, x100_1, true)) = some (r1, r2, r3, r4, r5, r6, r7) := by rw [if_pos rfl] at H; exact H
      clear H
      have H := H1
      clear H1
      simp only [Option.some.injEq, Prod.mk.injEq] at H
      obtain ⟨rfl, rfl, rfl, rfl, rfl, rfl, rfl⟩ := H
      have hnb82 := NB187_186.out
      have hnc82 := NB186_187.out
      obtain ⟨hcz83_0, hcz83_1, hfz83_0, hfz83_1⟩ := Ke2_ BK187.out
      go_wp2_with (first | ((with_reducible refine gate_callee (f := 55) rfl ?_); refine Kg_ (some 68) rfl rfl Try.func55 (by kernel_rfl) rfl #[.agg #[.string x107_1, .bool x106_1]] rfl ?_; (with_reducible refine (pack_Reader_Done.calls x107_1 x106_1 true _ A78.out).mono ?_); rintro e w84 ⟨rfl, hb⟩; refine ⟨_, rfl, ?_⟩; replace HO_100 := Aside0.mk (Kd.R_below (Ku_ HO_100) hb); replace BK186 := Kb_ BK186 hb; replace BK187 := Kb_ BK187 hb; replace HB := Ks_ HB hb; (try clear hb); (try clear hb2); (try clear hk); (try clear hi); obtain ⟨hcz85_0, hcz85_1, hcz85_2, hcz85_3, hcz85_4, hcz85_5, hfz85_0, hfz85_1, hfz85_2, hfz85_3, hfz85_4, hfz85_5⟩ := Ke6_ BK186.out; obtain ⟨Ao86, co86, eo86⟩ := Kd.R_slice HO_100.out; subst eo86) | (go_at_call 22; (with_reducible refine (item_Whole.calls x105_1 x104_1 x103_1 x102_1 x101_1 _ _ x100_1 true _ ?side1 ?side2 A80.out).mono ?_); (case side1 => repeat (first | exact (Kd.R_reads' HO_100.out).2.2 | (with_reducible refine Kd.C_alloc ?_ _) | (with_reducible refine Kd.C_drewN ?_ _) | (with_reducible refine Kd.C_drew ?_))); (case side2 => exact (Kd.R_reads' HO_100.out).2.1); rintro e w87 ⟨rfl, hb⟩; replace HO_100 := Aside0.mk (Kd.R_below (Ku_ HO_100) hb); replace BK186 := Kb_ BK186 hb; replace BK187 := Kb_ BK187 hb; replace HB := Ks_ HB hb; (try clear hb); (try clear hb2); (try clear hk); (try clear hi); obtain ⟨hcz88_0, hcz88_1, hcz88_2, hcz88_3, hcz88_4, hcz88_5, hfz88_0, hfz88_1, hfz88_2, hfz88_3, hfz88_4, hfz88_5⟩ := Ke6_ BK186.out))
      refine bodyPost_ret (results_ct rfl _ _ gb186 43 #[.int .u64 x105_1, .int .u64 x104_1, .int .u64 x103_1, .int .u64 x102_1, .int .i64 x101_1, .slice Ao86 x100_1.length co86] (0, 0) _ rfl (by refine Kv_ ?_; refine blk_put (cs := #[.int .u64 x105_1, .int .u64 x104_1, .int .u64 x103_1, .int .u64 x102_1, .int .i64 x101_1, .slice Ao86 x100_1.length co86]) ?_ 5 _ rfl; refine Kv_ ?_; refine blk_put (cs := #[.int .u64 x105_1, .int .u64 x104_1, .int .u64 x103_1, .int .u64 x102_1, .int .i64 x101_1, .slice Ao86 x100_1.length co86]) ?_ 4 _ rfl; refine Kv_ ?_; refine blk_put (cs := #[.int .u64 x105_1, .int .u64 x104_1, .int .u64 x103_1, .int .u64 x102_1, .int .i64 x101_1, .slice Ao86 x100_1.length co86]) ?_ 3 _ rfl; refine Kv_ ?_; refine blk_put (cs := #[.int .u64 x105_1, .int .u64 x104_1, .int .u64 x103_1, .int .u64 x102_1, .int .i64 x101_1, .slice Ao86 x100_1.length co86]) ?_ 2 _ rfl; refine Kv_ ?_; refine blk_put (cs := #[.int .u64 x105_1, .int .u64 x104_1, .int .u64 x103_1, .int .u64 x102_1, .int .i64 x101_1, .slice Ao86 x100_1.length co86]) ?_ 1 _ rfl; refine Kv_ ?_; refine blk_put (cs := #[.int .u64 x105_1, .int .u64 x104_1, .int .u64 x103_1, .int .u64 x102_1, .int .i64 x101_1, .slice Ao86 x100_1.length co86]) ?_ 0 _ rfl; exact Kq_ BK186) Try.underlying43 rfl (by kernel_rfl)) rfl ?_
      exact ⟨_, by first | rfl | (simp [errW_none, errW_some] <;> rfl) | (simp [*, errW_none, errW_some] <;> rfl), by (with_reducible repeat (first | apply Kd.R_alloc | apply Kd.R_drewN | apply Kd.R_drew)); exact Kd.R_mono (Kd.R_far (p := ⟨gb186, 5, none⟩) (Kd.R_far (p := ⟨gb186, 4, none⟩) (Kd.R_far (p := ⟨gb186, 3, none⟩) (Kd.R_far (p := ⟨gb186, 2, none⟩) (Kd.R_far (p := ⟨gb186, 1, none⟩) (Kd.R_far (p := ⟨gb186, 0, none⟩) (Kd.R_types HO_100.out BK186.out (by decide)) (fun _ hk => hk.2) (.int .u64 x105_1)) (fun _ hk => hk.2) (.int .u64 x104_1)) (fun _ hk => hk.2) (.int .u64 x103_1)) (fun _ hk => hk.2) (.int .u64 x102_1)) (fun _ hk => hk.2) (.int .i64 x101_1)) (fun _ hk => hk.2) (.slice Ao86 x100_1.length co86)) (fun _ hk => trivial), K2a_ HB GE186 GE187⟩
     subst c16
     have H1 : ((pack_Reader_Text.f kj11 x107_1 x106_1 16).bind fun bt199 => ((pack_Reader_Text.f kj11 bt199.2.1 bt199.2.2 16).bind fun bt202 => ((pack_Reader_Number.f bt202.2.1 bt202.2.2 1).bind fun bt205 => (if bt205.1 > 1 then (some (0, 0, 0, 0, 0, ([] : List (S23)), false)) else (if bt205.1 = 1 then (if x100_1.length < 2513169434916 then (item_Read.l0 kj11 (IntKind.u64.wrap (x4_1 - 1)) x105_1 x104_1 x103_1 x102_1 x101_1 (x100_1 ++ [(⟨bt199.1, bt202.1, (⟨#[]⟩ : ByteArray), (bt205.1 == 1)⟩ : S23)]) bt205.2.1 bt205.2.2) else (none)) else ((pack_Reader_Text.f kj11 bt205.2.1 bt205.2.2 32).bind fun bt211 => (if x100_1.length < 2513169434916 then (item_Read.l0 kj11 (IntKind.u64.wrap (x4_1 - 1)) x105_1 x104_1 x103_1 x102_1 x101_1 (x100_1 ++ [(⟨bt199.1, bt202.1, bt211.1, (bt205.1 == 1)⟩ : S23)]) bt211.2.1 bt211.2.2) else (none)))))))) = some (r1, r2, r3, r4, r5, r6, r7) := by rw [if_pos rfl] at H; exact H
     clear H
     have H := H1
     clear H1
     replace H := Option.bind_eq_some_iff.mp H
     obtain ⟨⟨t199, t200, t201⟩, A170, H⟩ := H
     replace H : ((pack_Reader_Text.f kj11 t200 t201 16).bind fun bt202 => ((pack_Reader_Number.f bt202.2.1 bt202.2.2 1).bind fun bt205 => (if bt205.1 > 1 then (some (0, 0, 0, 0, 0, ([] : List (S23)), false)) else (if bt205.1 = 1 then (if x100_1.length < 2513169434916 then (item_Read.l0 kj11 (IntKind.u64.wrap (x4_1 - 1)) x105_1 x104_1 x103_1 x102_1 x101_1 (x100_1 ++ [(⟨t199, bt202.1, (⟨#[]⟩ : ByteArray), (bt205.1 == 1)⟩ : S23)]) bt205.2.1 bt205.2.2) else (none)) else ((pack_Reader_Text.f kj11 bt205.2.1 bt205.2.2 32).bind fun bt211 => (if x100_1.length < 2513169434916 then (item_Read.l0 kj11 (IntKind.u64.wrap (x4_1 - 1)) x105_1 x104_1 x103_1 x102_1 x101_1 (x100_1 ++ [(⟨t199, bt202.1, bt211.1, (bt205.1 == 1)⟩ : S23)]) bt211.2.1 bt211.2.2) else (none))))))) = some (r1, r2, r3, r4, r5, r6, r7) := H
     have A17 := Aside0.mk A170
     clear A170
     replace H := Option.bind_eq_some_iff.mp H
     obtain ⟨⟨t202, t203, t204⟩, A180, H⟩ := H
     replace H : ((pack_Reader_Number.f t203 t204 1).bind fun bt205 => (if bt205.1 > 1 then (some (0, 0, 0, 0, 0, ([] : List (S23)), false)) else (if bt205.1 = 1 then (if x100_1.length < 2513169434916 then (item_Read.l0 kj11 (IntKind.u64.wrap (x4_1 - 1)) x105_1 x104_1 x103_1 x102_1 x101_1 (x100_1 ++ [(⟨t199, t202, (⟨#[]⟩ : ByteArray), (bt205.1 == 1)⟩ : S23)]) bt205.2.1 bt205.2.2) else (none)) else ((pack_Reader_Text.f kj11 bt205.2.1 bt205.2.2 32).bind fun bt211 => (if x100_1.length < 2513169434916 then (item_Read.l0 kj11 (IntKind.u64.wrap (x4_1 - 1)) x105_1 x104_1 x103_1 x102_1 x101_1 (x100_1 ++ [(⟨t199, t202, bt211.1, (bt205.1 == 1)⟩ : S23)]) bt211.2.1 bt211.2.2) else (none)))))) = some (r1, r2, r3, r4, r5, r6, r7) := H
     have A18 := Aside0.mk A180
     clear A180
     replace H := Option.bind_eq_some_iff.mp H
     obtain ⟨⟨t205, t206, t207⟩, A190, H⟩ := H
     replace H : (if t205 > 1 then (some (0, 0, 0, 0, 0, ([] : List (S23)), false)) else (if t205 = 1 then (if x100_1.length < 2513169434916 then (item_Read.l0 kj11 (IntKind.u64.wrap (x4_1 - 1)) x105_1 x104_1 x103_1 x102_1 x101_1 (x100_1 ++ [(⟨t199, t202, (⟨#[]⟩ : ByteArray), (t205 == 1)⟩ : S23)]) t206 t207) else (none)) else ((pack_Reader_Text.f kj11 t206 t207 32).bind fun bt211 => (if x100_1.length < 2513169434916 then (item_Read.l0 kj11 (IntKind.u64.wrap (x4_1 - 1)) x105_1 x104_1 x103_1 x102_1 x101_1 (x100_1 ++ [(⟨t199, t202, bt211.1, (t205 == 1)⟩ : S23)]) bt211.2.1 bt211.2.2) else (none))))) = some (r1, r2, r3, r4, r5, r6, r7) := H
     have A19 := Aside0.mk A190
     clear A190
     by_cases c20 : t205 > 1
     ·rw [if_pos c20] at H
      have c20b0 : decide (1 < t205) = true := decide_eq_true c20
      clear c20
      simp only [Option.some.injEq, Prod.mk.injEq] at H
      obtain ⟨rfl, rfl, rfl, rfl, rfl, rfl, rfl⟩ := H
      go_wp2_with (first | ((with_reducible refine gate_dst (N := 7) rfl ?_); refine Ka_ 7 #[.string (⟨#[]⟩ : ByteArray), .string (⟨#[]⟩ : ByteArray), .string (⟨#[]⟩ : ByteArray), .bool false] 23 ?_; intro gb198 hg w21 hbox hb; have BK198 := Aside0.mk (hbox); have GW198 := Kw_ HB hg; have GE198 := GW198; have NB186_198 := Kl_ BK186 hg; have NB198_186 := Kr_ BK186 hg; have NB187_198 := Kl_ BK187 hg; have NB198_187 := Kr_ BK187 hg; replace HO_100 := Aside0.mk (Kd.R_below (Kd.R_elderB (Ku_ HO_100) gb198 (Nat.le_of_eq hg.symm)) hb); replace BK186 := Kb_ BK186 hb; replace BK187 := Kb_ BK187 hb; replace HB := Ks_ HB hb; clear hb hbox hg; have hnb22 := NB187_186.out; have hnc22 := NB186_187.out; have hnb23 := NB187_198.out; have hnc23 := NB198_187.out; obtain ⟨hcz24_0, hcz24_1, hfz24_0, hfz24_1⟩ := Ke2_ BK187.out) | ((with_reducible refine gate_callee (f := 54) rfl ?_); refine Kg_ (some 31) rfl rfl Try.func54 (by kernel_rfl) rfl #[.agg #[.string x107_1, .bool x106_1], .int .i64 16] rfl ?_; (with_reducible refine (pack_Reader_Text.calls kj11 x107_1 x106_1 16 t199 t200 t201 _ A17.out).mono ?_); rintro e w25 ⟨rfl, hb⟩; refine ⟨_, rfl, ?_⟩; replace HO_100 := Aside0.mk (Kd.R_below (Ku_ HO_100) hb); replace BK186 := Kb_ BK186 hb; replace BK187 := Kb_ BK187 hb; replace BK198 := Kb_ BK198 hb; replace HB := Ks_ HB hb; (try clear hb); (try clear hb2); (try clear hk); (try clear hi); have hnb26 := NB198_186.out; have hnc26 := NB186_198.out; obtain ⟨hcz27_0, hcz27_1, hcz27_2, hcz27_3, hfz27_0, hfz27_1, hfz27_2, hfz27_3⟩ := Ke4_ BK198.out; obtain ⟨hcz28_0, hcz28_1, hfz28_0, hfz28_1⟩ := Ke2_ BK187.out) | ((with_reducible refine gate_callee (f := 54) rfl ?_); refine Kg_ (some 37) rfl rfl Try.func54 (by kernel_rfl) rfl #[.agg #[.string t200, .bool t201], .int .i64 16] rfl ?_; (with_reducible refine (pack_Reader_Text.calls kj11 t200 t201 16 t202 t203 t204 _ A18.out).mono ?_); rintro e w29 ⟨rfl, hb⟩; refine ⟨_, rfl, ?_⟩; replace HO_100 := Aside0.mk (Kd.R_below (by (with_reducible repeat (first | apply Kd.R_alloc | apply Kd.R_drewN | apply Kd.R_drew)); exact (Kd.R_mono (Kd.R_mono (Kd.R_far (p := ⟨gb187, 1, none⟩) (Kd.R_far (p := ⟨gb187, 0, none⟩) (Kd.R_far (p := ⟨gb198, 0, none⟩) (Kd.R_types (Kd.R_mono HO_100.out (fun k_ hk => (⟨hk, hk.2⟩ : _ ∧ k_ ≠ gb198))) BK187.out (by decide)) (fun _ hk => hk.1.2) (.string t199)) (fun _ hk => hk.2) (.string t200)) (fun _ hk => hk.2) (.bool t201)) (fun _ h_ => h_.1)) (fun _ h_ => h_.1))) hb); replace BK186 := Aside0.mk (blk_below (g := gb186) (o := .cells #[.int .u64 x105_1, .int .u64 x104_1, .int .u64 x103_1, .int .u64 x102_1, .int .i64 x101_1, u187005] 43 (0, 0)) (K2b_ BK186 NB186_187 NB186_198) hb); replace BK187 := Aside0.mk (blk_below (g := gb187) (o := .cells #[.string t200, .bool t201] 97 (0, 0)) (by refine Kv_ ?_; refine blk_put (cs := #[.string t200, .bool x106_1]) ?_ 1 _ rfl; refine Kv_ ?_; refine blk_put (cs := #[.string x107_1, .bool x106_1]) ?_ 0 _ rfl; exact K1b_ BK187 NB187_198) hb); replace BK198 := Aside0.mk (blk_below (g := gb198) (o := .cells #[.string t199, .string (⟨#[]⟩ : ByteArray), .string (⟨#[]⟩ : ByteArray), .bool false] 23 (0, 0)) (by (repeat (first | (with_reducible first | refine blk_drewN ?_ _ | refine blk_drew ?_ | refine blk_alloc ?_ _) | refine blk_far ?_ NB198_187.out _)); refine blk_put (cs := #[.string (⟨#[]⟩ : ByteArray), .string (⟨#[]⟩ : ByteArray), .string (⟨#[]⟩ : ByteArray), .bool false]) ?_ 0 _ rfl; exact Kq_ BK198) hb); replace HB := Aside0.mk (below_step (K3a_ HB GE186 GE187 GE198) hb); (try clear hb); (try clear hb2); (try clear hk); (try clear hi); obtain ⟨hcz30_0, hcz30_1, hcz30_2, hcz30_3, hfz30_0, hfz30_1, hfz30_2, hfz30_3⟩ := Ke4_ BK198.out; obtain ⟨hcz31_0, hcz31_1, hfz31_0, hfz31_1⟩ := Ke2_ BK187.out) | ((with_reducible refine gate_callee (f := 53) rfl ?_); refine Kg_ (some 43) rfl rfl Try.func53 (by kernel_rfl) rfl #[.agg #[.string t203, .bool t204], .int .i64 1] rfl ?_; (with_reducible refine (pack_Reader_Number.calls t203 t204 1 t205 t206 t207 _ A19.out).mono ?_); rintro e w32 ⟨rfl, hb⟩; refine ⟨_, rfl, ?_⟩; replace HO_100 := Aside0.mk (Kd.R_below (by (with_reducible repeat (first | apply Kd.R_alloc | apply Kd.R_drewN | apply Kd.R_drew)); exact (Kd.R_mono (Kd.R_mono (Kd.R_far (p := ⟨gb187, 1, none⟩) (Kd.R_far (p := ⟨gb187, 0, none⟩) (Kd.R_far (p := ⟨gb198, 1, none⟩) (Kd.R_types (Kd.R_mono HO_100.out (fun k_ hk => (⟨hk, hk.2⟩ : _ ∧ k_ ≠ gb198))) BK187.out (by decide)) (fun _ hk => hk.1.2) (.string t202)) (fun _ hk => hk.2) (.string t203)) (fun _ hk => hk.2) (.bool t204)) (fun _ h_ => h_.1)) (fun _ h_ => h_.1))) hb); replace BK186 := Aside0.mk (blk_below (g := gb186) (o := .cells #[.int .u64 x105_1, .int .u64 x104_1, .int .u64 x103_1, .int .u64 x102_1, .int .i64 x101_1, u187005] 43 (0, 0)) (K2b_ BK186 NB186_187 NB186_198) hb); replace BK187 := Aside0.mk (blk_below (g := gb187) (o := .cells #[.string t203, .bool t204] 97 (0, 0)) (by refine Kv_ ?_; refine blk_put (cs := #[.string t203, .bool t201]) ?_ 1 _ rfl; refine Kv_ ?_; refine blk_put (cs := #[.string t200, .bool t201]) ?_ 0 _ rfl; exact K1b_ BK187 NB187_198) hb); replace BK198 := Aside0.mk (blk_below (g := gb198) (o := .cells #[.string t199, .string t202, .string (⟨#[]⟩ : ByteArray), .bool false] 23 (0, 0)) (by (repeat (first | (with_reducible first | refine blk_drewN ?_ _ | refine blk_drew ?_ | refine blk_alloc ?_ _) | refine blk_far ?_ NB198_187.out _)); refine blk_put (cs := #[.string t199, .string (⟨#[]⟩ : ByteArray), .string (⟨#[]⟩ : ByteArray), .bool false]) ?_ 1 _ rfl; exact Kq_ BK198) hb); replace HB := Aside0.mk (below_step (K3a_ HB GE186 GE187 GE198) hb); (try clear hb); (try clear hb2); (try clear hk); (try clear hi); obtain ⟨hcz33_0, hcz33_1, hfz33_0, hfz33_1⟩ := Ke2_ BK187.out; obtain ⟨hcz34_0, hcz34_1, hcz34_2, hcz34_3, hcz34_4, hcz34_5, hfz34_0, hfz34_1, hfz34_2, hfz34_3, hfz34_4, hfz34_5⟩ := Ke6_ BK186.out))
      refine bodyPost_ret (results_ct rfl _ _ gb186 43 #[.int .u64 0, .int .u64 0, .int .u64 0, .int .u64 0, .int .i64 0, .slice none 0 0] (0, 0) _ rfl (by refine Kv_ ?_; refine blk_put (cs := #[.int .u64 0, .int .u64 0, .int .u64 0, .int .u64 0, .int .i64 0, u187005]) ?_ 5 _ rfl; refine Kv_ ?_; refine blk_put (cs := #[.int .u64 0, .int .u64 0, .int .u64 0, .int .u64 0, .int .i64 x101_1, u187005]) ?_ 4 _ rfl; refine Kv_ ?_; refine blk_put (cs := #[.int .u64 0, .int .u64 0, .int .u64 0, .int .u64 x102_1, .int .i64 x101_1, u187005]) ?_ 3 _ rfl; refine Kv_ ?_; refine blk_put (cs := #[.int .u64 0, .int .u64 0, .int .u64 x103_1, .int .u64 x102_1, .int .i64 x101_1, u187005]) ?_ 2 _ rfl; refine Kv_ ?_; refine blk_put (cs := #[.int .u64 0, .int .u64 x104_1, .int .u64 x103_1, .int .u64 x102_1, .int .i64 x101_1, u187005]) ?_ 1 _ rfl; refine Kv_ ?_; refine blk_put (cs := #[.int .u64 x105_1, .int .u64 x104_1, .int .u64 x103_1, .int .u64 x102_1, .int .i64 x101_1, u187005]) ?_ 0 _ rfl; exact K1b_ BK186 NB186_187) Try.underlying43 rfl (by kernel_rfl)) rfl ?_
      exact ⟨_, by first | rfl | (simp [errW_none, errW_some] <;> rfl) | (simp [*, errW_none, errW_some] <;> rfl), by first | exact Kd.R_nil _ _ _ _ _ | exact Kd.N_nil _ _ _ _ _ | exact Kd.V_nil _ _ _ _ _ | exact Kd.Q_nil _ _ _ _ _ | exact Kd.S_nil _ _ _ _ _, K3a_ HB GE186 GE187 GE198⟩
     rw [if_neg c20] at H
     have c20b0 : decide (1 < t205) = false := decide_eq_false c20
     clear c20
     by_cases c35 : t205 = 1
     ·rw [if_pos c35] at H
      have c35b0 : (t205 == 1) = true := beq_iff_eq.mpr c35
      (try simp only [c35b0] at H)
      have c35b1 : (t205 != 1) = false := bne_eq_false_iff_eq.mpr c35
      clear c35
      by_cases c36 : x100_1.length < 2513169434916
      rotate_left
      ·rw [if_neg c36] at H
       exact absurd H (by simp)
      rw [if_pos c36] at H
      have LMc36 := Aside0.mk c36
      clear c36
      obtain ⟨y208, hy208⟩ : ∃ y_ : List (S23), y_ = (x100_1 ++ [(⟨t199, t202, (⟨#[]⟩ : ByteArray), true⟩ : S23)]) := ⟨_, rfl⟩
      replace H : (item_Read.l0 kj11 (IntKind.u64.wrap (x4_1 - 1)) x105_1 x104_1 x103_1 x102_1 x101_1 y208 t206 t207) = some (r1, r2, r3, r4, r5, r6, r7) := by first | (rw [hy208]; with_reducible exact H) | (have H2_ := (Option.bind_some _ _).symm.trans H; rw [hy208]; with_reducible exact H2_) | (have H2_ := (Option.bind_some _ _).symm.trans H; with_reducible exact H2_) | with_reducible exact H | (rw [hy208]; exact H) | exact H
      have Ny208 := Aside0.mk hy208
      clear hy208
      have H' := Aside0.mk H
      clear H
      go_wp2_with (first | ((with_reducible refine gate_dst (N := 7) rfl ?_); refine Ka_ 7 #[.string (⟨#[]⟩ : ByteArray), .string (⟨#[]⟩ : ByteArray), .string (⟨#[]⟩ : ByteArray), .bool false] 23 ?_; intro gb198 hg w37 hbox hb; have BK198 := Aside0.mk (hbox); have GW198 := Kw_ HB hg; have GE198 := GW198; have NB186_198 := Kl_ BK186 hg; have NB198_186 := Kr_ BK186 hg; have NB187_198 := Kl_ BK187 hg; have NB198_187 := Kr_ BK187 hg; replace HO_100 := Aside0.mk (Kd.R_below (Kd.R_elderB (Ku_ HO_100) gb198 (Nat.le_of_eq hg.symm)) hb); replace BK186 := Kb_ BK186 hb; replace BK187 := Kb_ BK187 hb; replace HB := Ks_ HB hb; clear hb hbox hg; have hnb38 := NB187_186.out; have hnc38 := NB186_187.out; have hnb39 := NB187_198.out; have hnc39 := NB198_187.out; obtain ⟨hcz40_0, hcz40_1, hfz40_0, hfz40_1⟩ := Ke2_ BK187.out) | ((with_reducible refine gate_callee (f := 54) rfl ?_); refine Kg_ (some 31) rfl rfl Try.func54 (by kernel_rfl) rfl #[.agg #[.string x107_1, .bool x106_1], .int .i64 16] rfl ?_; (with_reducible refine (pack_Reader_Text.calls kj11 x107_1 x106_1 16 t199 t200 t201 _ A17.out).mono ?_); rintro e w41 ⟨rfl, hb⟩; refine ⟨_, rfl, ?_⟩; replace HO_100 := Aside0.mk (Kd.R_below (Ku_ HO_100) hb); replace BK186 := Kb_ BK186 hb; replace BK187 := Kb_ BK187 hb; replace BK198 := Kb_ BK198 hb; replace HB := Ks_ HB hb; (try clear hb); (try clear hb2); (try clear hk); (try clear hi); have hnb42 := NB198_186.out; have hnc42 := NB186_198.out; obtain ⟨hcz43_0, hcz43_1, hcz43_2, hcz43_3, hfz43_0, hfz43_1, hfz43_2, hfz43_3⟩ := Ke4_ BK198.out; obtain ⟨hcz44_0, hcz44_1, hfz44_0, hfz44_1⟩ := Ke2_ BK187.out) | ((with_reducible refine gate_callee (f := 54) rfl ?_); refine Kg_ (some 37) rfl rfl Try.func54 (by kernel_rfl) rfl #[.agg #[.string t200, .bool t201], .int .i64 16] rfl ?_; (with_reducible refine (pack_Reader_Text.calls kj11 t200 t201 16 t202 t203 t204 _ A18.out).mono ?_); rintro e w45 ⟨rfl, hb⟩; refine ⟨_, rfl, ?_⟩; replace HO_100 := Aside0.mk (Kd.R_below (by (with_reducible repeat (first | apply Kd.R_alloc | apply Kd.R_drewN | apply Kd.R_drew)); exact (Kd.R_mono (Kd.R_mono (Kd.R_far (p := ⟨gb187, 1, none⟩) (Kd.R_far (p := ⟨gb187, 0, none⟩) (Kd.R_far (p := ⟨gb198, 0, none⟩) (Kd.R_types (Kd.R_mono HO_100.out (fun k_ hk => (⟨hk, hk.2⟩ : _ ∧ k_ ≠ gb198))) BK187.out (by decide)) (fun _ hk => hk.1.2) (.string t199)) (fun _ hk => hk.2) (.string t200)) (fun _ hk => hk.2) (.bool t201)) (fun _ h_ => h_.1)) (fun _ h_ => h_.1))) hb); replace BK186 := Aside0.mk (blk_below (g := gb186) (o := .cells #[.int .u64 x105_1, .int .u64 x104_1, .int .u64 x103_1, .int .u64 x102_1, .int .i64 x101_1, u187005] 43 (0, 0)) (K2b_ BK186 NB186_187 NB186_198) hb); replace BK187 := Aside0.mk (blk_below (g := gb187) (o := .cells #[.string t200, .bool t201] 97 (0, 0)) (by refine Kv_ ?_; refine blk_put (cs := #[.string t200, .bool x106_1]) ?_ 1 _ rfl; refine Kv_ ?_; refine blk_put (cs := #[.string x107_1, .bool x106_1]) ?_ 0 _ rfl; exact K1b_ BK187 NB187_198) hb); replace BK198 := Aside0.mk (blk_below (g := gb198) (o := .cells #[.string t199, .string (⟨#[]⟩ : ByteArray), .string (⟨#[]⟩ : ByteArray), .bool false] 23 (0, 0)) (by (repeat (first | (with_reducible first | refine blk_drewN ?_ _ | refine blk_drew ?_ | refine blk_alloc ?_ _) | refine blk_far ?_ NB198_187.out _)); refine blk_put (cs := #[.string (⟨#[]⟩ : ByteArray), .string (⟨#[]⟩ : ByteArray), .string (⟨#[]⟩ : ByteArray), .bool false]) ?_ 0 _ rfl; exact Kq_ BK198) hb); replace HB := Aside0.mk (below_step (K3a_ HB GE186 GE187 GE198) hb); (try clear hb); (try clear hb2); (try clear hk); (try clear hi); obtain ⟨hcz46_0, hcz46_1, hcz46_2, hcz46_3, hfz46_0, hfz46_1, hfz46_2, hfz46_3⟩ := Ke4_ BK198.out; obtain ⟨hcz47_0, hcz47_1, hfz47_0, hfz47_1⟩ := Ke2_ BK187.out) | ((with_reducible refine gate_callee (f := 53) rfl ?_); refine Kg_ (some 43) rfl rfl Try.func53 (by kernel_rfl) rfl #[.agg #[.string t203, .bool t204], .int .i64 1] rfl ?_; (with_reducible refine (pack_Reader_Number.calls t203 t204 1 t205 t206 t207 _ A19.out).mono ?_); rintro e w48 ⟨rfl, hb⟩; refine ⟨_, rfl, ?_⟩; replace HO_100 := Aside0.mk (Kd.R_below (by (with_reducible repeat (first | apply Kd.R_alloc | apply Kd.R_drewN | apply Kd.R_drew)); exact (Kd.R_mono (Kd.R_mono (Kd.R_far (p := ⟨gb187, 1, none⟩) (Kd.R_far (p := ⟨gb187, 0, none⟩) (Kd.R_far (p := ⟨gb198, 1, none⟩) (Kd.R_types (Kd.R_mono HO_100.out (fun k_ hk => (⟨hk, hk.2⟩ : _ ∧ k_ ≠ gb198))) BK187.out (by decide)) (fun _ hk => hk.1.2) (.string t202)) (fun _ hk => hk.2) (.string t203)) (fun _ hk => hk.2) (.bool t204)) (fun _ h_ => h_.1)) (fun _ h_ => h_.1))) hb); replace BK186 := Aside0.mk (blk_below (g := gb186) (o := .cells #[.int .u64 x105_1, .int .u64 x104_1, .int .u64 x103_1, .int .u64 x102_1, .int .i64 x101_1, u187005] 43 (0, 0)) (K2b_ BK186 NB186_187 NB186_198) hb); replace BK187 := Aside0.mk (blk_below (g := gb187) (o := .cells #[.string t203, .bool t204] 97 (0, 0)) (by refine Kv_ ?_; refine blk_put (cs := #[.string t203, .bool t201]) ?_ 1 _ rfl; refine Kv_ ?_; refine blk_put (cs := #[.string t200, .bool t201]) ?_ 0 _ rfl; exact K1b_ BK187 NB187_198) hb); replace BK198 := Aside0.mk (blk_below (g := gb198) (o := .cells #[.string t199, .string t202, .string (⟨#[]⟩ : ByteArray), .bool false] 23 (0, 0)) (by (repeat (first | (with_reducible first | refine blk_drewN ?_ _ | refine blk_drew ?_ | refine blk_alloc ?_ _) | refine blk_far ?_ NB198_187.out _)); refine blk_put (cs := #[.string t199, .string (⟨#[]⟩ : ByteArray), .string (⟨#[]⟩ : ByteArray), .bool false]) ?_ 1 _ rfl; exact Kq_ BK198) hb); replace HB := Aside0.mk (below_step (K3a_ HB GE186 GE187 GE198) hb); (try clear hb); (try clear hb2); (try clear hk); (try clear hi); obtain ⟨hcz49_0, hcz49_1, hfz49_0, hfz49_1⟩ := Ke2_ BK187.out; obtain ⟨hcz50_0, hcz50_1, hcz50_2, hcz50_3, hfz50_0, hfz50_1, hfz50_2, hfz50_3⟩ := Ke4_ BK198.out; obtain ⟨hcz51_0, hcz51_1, hcz51_2, hcz51_3, hcz51_4, hcz51_5, hfz51_0, hfz51_1, hfz51_2, hfz51_3, hfz51_4, hfz51_5⟩ := Ke6_ BK186.out) | ((with_reducible refine gate_builtin (b := .append) (xs := #[.tmp 62, .tmp 64]) rfl ?_); at_builtin; refine Kd.R_append k23 (w0 := w) w.heap.size rfl (.tmp 62) (.tmp 64) 41 23 (.agg #[(.string ⟨#[]⟩), (.string ⟨#[]⟩), (.string ⟨#[]⟩), (.bool false)]) 56 rfl Try.underlying41 info23 rfl (by decide) (by omega) u187005 x100_1 (⟨t199, t202, (⟨#[]⟩ : ByteArray), true⟩ : S23) [.string t199, .string t202, .string (⟨#[]⟩ : ByteArray), .bool true] (fun k_ => k_ ≠ gb198) (fun _ => False) rfl (by first | (go_simp; done) | (go_simp; rfl)) ?aP (fun _ hk => hk.elim) ?aF ?aO ?aB ?aS ?aL ?_; (case aP => exact k23_mkM _ _ _ (⟨t199, t202, (⟨#[]⟩ : ByteArray), true⟩ : S23)); (case aB => exact (K3a_ HB GE186 GE187 GE198)); (case aF => exact (fun k_ hk => Kd.freshB (g := gb198) (o := .cells #[.string t199, .string t202, .string (⟨#[]⟩ : ByteArray), .bool true] 23 (0, 0)) (by refine Kv_ ?_; refine blk_put (cs := #[.string t199, .string t202, .string (⟨#[]⟩ : ByteArray), .bool false]) ?_ 3 _ rfl; exact K1b_ BK198 NB198_187) k_ hk)); (case aO => exact (by (with_reducible repeat (first | apply Kd.R_alloc | apply Kd.R_drewN | apply Kd.R_drew)); exact Kd.R_mono (Kd.R_far (p := ⟨gb198, 3, none⟩) (Kd.R_far (p := ⟨gb187, 1, none⟩) (Kd.R_far (p := ⟨gb187, 0, none⟩) (Kd.R_mono (Kd.R_types HO_100.out BK187.out (by decide)) (fun k_ hk => (⟨hk, hk.1.2⟩ : _ ∧ k_ ≠ gb198))) (fun _ hk => hk.1.2) (.string t206)) (fun _ hk => hk.1.2) (.bool t207)) (fun _ hk => hk.2) (.bool true)) (fun _ hk => hk.1.1.2))); (case aS => exact (below_size (K3a_ HB GE186 GE187 GE198))); (case aL => have := LMc36.out; omega); intro v209 w52 ho hb hg hat; rw [← Ny208.out] at ho; have HO210 := Aside0.mk (ho); replace BK186 := Aside0.mk (blk_grown (g := gb186) (o := .cells #[.int .u64 x105_1, .int .u64 x104_1, .int .u64 x103_1, .int .u64 x102_1, .int .i64 x101_1, u187005] 43 (0, 0)) (K2b_ BK186 NB186_198 NB186_187) hg (Kd.R_ne HO_100.out BK186.out (by decide))); replace BK187 := Aside0.mk (blk_grown (g := gb187) (o := .cells #[.string t206, .bool t207] 97 (0, 0)) (by (repeat (first | (with_reducible first | refine blk_drewN ?_ _ | refine blk_drew ?_ | refine blk_alloc ?_ _) | refine blk_far ?_ NB187_198.out _)); refine blk_put (cs := #[.string t206, .bool t204]) ?_ 1 _ rfl; refine Kv_ ?_; refine blk_put (cs := #[.string t203, .bool t204]) ?_ 0 _ rfl; exact Kq_ BK187) hg (Kd.R_ne HO_100.out BK187.out (by decide))); replace BK198 := Aside0.mk (blk_grown (g := gb198) (o := .cells #[.string t199, .string t202, .string (⟨#[]⟩ : ByteArray), .bool true] 23 (0, 0)) (by refine Kv_ ?_; refine blk_put (cs := #[.string t199, .string t202, .string (⟨#[]⟩ : ByteArray), .bool false]) ?_ 3 _ rfl; exact K1b_ BK198 NB198_187) hg (Kd.R_away HO_100.out (fun _ hk => hk.2))); replace HB := Aside0.mk (hb); clear HO_100; clear ho hb hg hat; obtain ⟨Ao53, co53, eo53⟩ := Kd.R_slice HO210.out; subst eo53; obtain ⟨hcz54_0, hcz54_1, hcz54_2, hcz54_3, hcz54_4, hcz54_5, hfz54_0, hfz54_1, hfz54_2, hfz54_3, hfz54_4, hfz54_5⟩ := Ke6_ BK186.out))
      go_roundg kj11
      case measure => have := HK1.out; have := HJ11.out; omega
      case rel => exact ⟨(IntKind.u64.wrap (x4_1 - 1)), (x105_1), (x104_1), (x103_1), (x102_1), (x101_1), (y208), (t206), (t207), (.slice Ao53 y208.length co53), (by first | rfl | (simp; done) | (simp [*]; done)), H', ⟨by have := HK1.out; have := HJ11.out; omega⟩, ⟨by (with_reducible repeat (first | apply Kd.R_alloc | apply Kd.R_drewN | apply Kd.R_drew)); exact Kd.R_mono (Kd.R_far (p := ⟨gb186, 5, none⟩) (Kd.R_types HO210.out BK186.out (by decide)) (fun _ hk => hk.2) (.slice Ao53 y208.length co53)) (fun _ hk => trivial)⟩, ⟨by refine Kv_ ?_; refine blk_put (cs := #[.int .u64 x105_1, .int .u64 x104_1, .int .u64 x103_1, .int .u64 x102_1, .int .i64 x101_1, u187005]) ?_ 5 _ rfl; exact Kq_ BK186⟩, ⟨by exact K1b_ BK187 NB187_186⟩, ⟨K3a_ HB GE186 GE187 GE198⟩⟩
     rw [if_neg c35] at H
     have c35b0 : (t205 == 1) = false := beq_eq_false_iff_ne.mpr c35
     (try simp only [c35b0] at H)
     have c35b1 : (t205 != 1) = true := bne_iff_ne.mpr c35
     replace H := Option.bind_eq_some_iff.mp H
     obtain ⟨⟨t211, t212, t213⟩, A550, H⟩ := H
     replace H : (if x100_1.length < 2513169434916 then (item_Read.l0 kj11 (IntKind.u64.wrap (x4_1 - 1)) x105_1 x104_1 x103_1 x102_1 x101_1 (x100_1 ++ [(⟨t199, t202, t211, false⟩ : S23)]) t212 t213) else (none)) = some (r1, r2, r3, r4, r5, r6, r7) := H
     have A55 := Aside0.mk A550
     clear A550
     by_cases c56 : x100_1.length < 2513169434916
     rotate_left
     ·rw [if_neg c56] at H
      exact absurd H (by simp)
     rw [if_pos c56] at H
     have LMc56 := Aside0.mk c56
     clear c56
     obtain ⟨y214, hy214⟩ : ∃ y_ : List (S23), y_ = (x100_1 ++ [(⟨t199, t202, t211, false⟩ : S23)]) := ⟨_, rfl⟩
     replace H : (item_Read.l0 kj11 (IntKind.u64.wrap (x4_1 - 1)) x105_1 x104_1 x103_1 x102_1 x101_1 y214 t212 t213) = some (r1, r2, r3, r4, r5, r6, r7) := by first | (rw [hy214]; with_reducible exact H) | (have H2_ := (Option.bind_some _ _).symm.trans H; rw [hy214]; with_reducible exact H2_) | (have H2_ := (Option.bind_some _ _).symm.trans H; with_reducible exact H2_) | with_reducible exact H | (rw [hy214]; exact H) | exact H
     have Ny214 := Aside0.mk hy214
     clear hy214
     have H' := Aside0.mk H
     clear H
     go_wp2_with (first | ((with_reducible refine gate_dst (N := 7) rfl ?_); refine Ka_ 7 #[.string (⟨#[]⟩ : ByteArray), .string (⟨#[]⟩ : ByteArray), .string (⟨#[]⟩ : ByteArray), .bool false] 23 ?_; intro gb198 hg w57 hbox hb; have BK198 := Aside0.mk (hbox); have GW198 := Kw_ HB hg; have GE198 := GW198; have NB186_198 := Kl_ BK186 hg; have NB198_186 := Kr_ BK186 hg; have NB187_198 := Kl_ BK187 hg; have NB198_187 := Kr_ BK187 hg; replace HO_100 := Aside0.mk (Kd.R_below (Kd.R_elderB (Ku_ HO_100) gb198 (Nat.le_of_eq hg.symm)) hb); replace BK186 := Kb_ BK186 hb; replace BK187 := Kb_ BK187 hb; replace HB := Ks_ HB hb; clear hb hbox hg; have hnb58 := NB187_186.out; have hnc58 := NB186_187.out; have hnb59 := NB187_198.out; have hnc59 := NB198_187.out; obtain ⟨hcz60_0, hcz60_1, hfz60_0, hfz60_1⟩ := Ke2_ BK187.out) | ((with_reducible refine gate_callee (f := 54) rfl ?_); refine Kg_ (some 31) rfl rfl Try.func54 (by kernel_rfl) rfl #[.agg #[.string x107_1, .bool x106_1], .int .i64 16] rfl ?_; (with_reducible refine (pack_Reader_Text.calls kj11 x107_1 x106_1 16 t199 t200 t201 _ A17.out).mono ?_); rintro e w61 ⟨rfl, hb⟩; refine ⟨_, rfl, ?_⟩; replace HO_100 := Aside0.mk (Kd.R_below (Ku_ HO_100) hb); replace BK186 := Kb_ BK186 hb; replace BK187 := Kb_ BK187 hb; replace BK198 := Kb_ BK198 hb; replace HB := Ks_ HB hb; (try clear hb); (try clear hb2); (try clear hk); (try clear hi); have hnb62 := NB198_186.out; have hnc62 := NB186_198.out; obtain ⟨hcz63_0, hcz63_1, hcz63_2, hcz63_3, hfz63_0, hfz63_1, hfz63_2, hfz63_3⟩ := Ke4_ BK198.out; obtain ⟨hcz64_0, hcz64_1, hfz64_0, hfz64_1⟩ := Ke2_ BK187.out) | ((with_reducible refine gate_callee (f := 54) rfl ?_); refine Kg_ (some 37) rfl rfl Try.func54 (by kernel_rfl) rfl #[.agg #[.string t200, .bool t201], .int .i64 16] rfl ?_; (with_reducible refine (pack_Reader_Text.calls kj11 t200 t201 16 t202 t203 t204 _ A18.out).mono ?_); rintro e w65 ⟨rfl, hb⟩; refine ⟨_, rfl, ?_⟩; replace HO_100 := Aside0.mk (Kd.R_below (by (with_reducible repeat (first | apply Kd.R_alloc | apply Kd.R_drewN | apply Kd.R_drew)); exact (Kd.R_mono (Kd.R_mono (Kd.R_far (p := ⟨gb187, 1, none⟩) (Kd.R_far (p := ⟨gb187, 0, none⟩) (Kd.R_far (p := ⟨gb198, 0, none⟩) (Kd.R_types (Kd.R_mono HO_100.out (fun k_ hk => (⟨hk, hk.2⟩ : _ ∧ k_ ≠ gb198))) BK187.out (by decide)) (fun _ hk => hk.1.2) (.string t199)) (fun _ hk => hk.2) (.string t200)) (fun _ hk => hk.2) (.bool t201)) (fun _ h_ => h_.1)) (fun _ h_ => h_.1))) hb); replace BK186 := Aside0.mk (blk_below (g := gb186) (o := .cells #[.int .u64 x105_1, .int .u64 x104_1, .int .u64 x103_1, .int .u64 x102_1, .int .i64 x101_1, u187005] 43 (0, 0)) (K2b_ BK186 NB186_187 NB186_198) hb); replace BK187 := Aside0.mk (blk_below (g := gb187) (o := .cells #[.string t200, .bool t201] 97 (0, 0)) (by refine Kv_ ?_; refine blk_put (cs := #[.string t200, .bool x106_1]) ?_ 1 _ rfl; refine Kv_ ?_; refine blk_put (cs := #[.string x107_1, .bool x106_1]) ?_ 0 _ rfl; exact K1b_ BK187 NB187_198) hb); replace BK198 := Aside0.mk (blk_below (g := gb198) (o := .cells #[.string t199, .string (⟨#[]⟩ : ByteArray), .string (⟨#[]⟩ : ByteArray), .bool false] 23 (0, 0)) (by (repeat (first | (with_reducible first | refine blk_drewN ?_ _ | refine blk_drew ?_ | refine blk_alloc ?_ _) | refine blk_far ?_ NB198_187.out _)); refine blk_put (cs := #[.string (⟨#[]⟩ : ByteArray), .string (⟨#[]⟩ : ByteArray), .string (⟨#[]⟩ : ByteArray), .bool false]) ?_ 0 _ rfl; exact Kq_ BK198) hb); replace HB := Aside0.mk (below_step (K3a_ HB GE186 GE187 GE198) hb); (try clear hb); (try clear hb2); (try clear hk); (try clear hi); obtain ⟨hcz66_0, hcz66_1, hcz66_2, hcz66_3, hfz66_0, hfz66_1, hfz66_2, hfz66_3⟩ := Ke4_ BK198.out; obtain ⟨hcz67_0, hcz67_1, hfz67_0, hfz67_1⟩ := Ke2_ BK187.out) | ((with_reducible refine gate_callee (f := 53) rfl ?_); refine Kg_ (some 43) rfl rfl Try.func53 (by kernel_rfl) rfl #[.agg #[.string t203, .bool t204], .int .i64 1] rfl ?_; (with_reducible refine (pack_Reader_Number.calls t203 t204 1 t205 t206 t207 _ A19.out).mono ?_); rintro e w68 ⟨rfl, hb⟩; refine ⟨_, rfl, ?_⟩; replace HO_100 := Aside0.mk (Kd.R_below (by (with_reducible repeat (first | apply Kd.R_alloc | apply Kd.R_drewN | apply Kd.R_drew)); exact (Kd.R_mono (Kd.R_mono (Kd.R_far (p := ⟨gb187, 1, none⟩) (Kd.R_far (p := ⟨gb187, 0, none⟩) (Kd.R_far (p := ⟨gb198, 1, none⟩) (Kd.R_types (Kd.R_mono HO_100.out (fun k_ hk => (⟨hk, hk.2⟩ : _ ∧ k_ ≠ gb198))) BK187.out (by decide)) (fun _ hk => hk.1.2) (.string t202)) (fun _ hk => hk.2) (.string t203)) (fun _ hk => hk.2) (.bool t204)) (fun _ h_ => h_.1)) (fun _ h_ => h_.1))) hb); replace BK186 := Aside0.mk (blk_below (g := gb186) (o := .cells #[.int .u64 x105_1, .int .u64 x104_1, .int .u64 x103_1, .int .u64 x102_1, .int .i64 x101_1, u187005] 43 (0, 0)) (K2b_ BK186 NB186_187 NB186_198) hb); replace BK187 := Aside0.mk (blk_below (g := gb187) (o := .cells #[.string t203, .bool t204] 97 (0, 0)) (by refine Kv_ ?_; refine blk_put (cs := #[.string t203, .bool t201]) ?_ 1 _ rfl; refine Kv_ ?_; refine blk_put (cs := #[.string t200, .bool t201]) ?_ 0 _ rfl; exact K1b_ BK187 NB187_198) hb); replace BK198 := Aside0.mk (blk_below (g := gb198) (o := .cells #[.string t199, .string t202, .string (⟨#[]⟩ : ByteArray), .bool false] 23 (0, 0)) (by (repeat (first | (with_reducible first | refine blk_drewN ?_ _ | refine blk_drew ?_ | refine blk_alloc ?_ _) | refine blk_far ?_ NB198_187.out _)); refine blk_put (cs := #[.string t199, .string (⟨#[]⟩ : ByteArray), .string (⟨#[]⟩ : ByteArray), .bool false]) ?_ 1 _ rfl; exact Kq_ BK198) hb); replace HB := Aside0.mk (below_step (K3a_ HB GE186 GE187 GE198) hb); (try clear hb); (try clear hb2); (try clear hk); (try clear hi); obtain ⟨hcz69_0, hcz69_1, hfz69_0, hfz69_1⟩ := Ke2_ BK187.out; obtain ⟨hcz70_0, hcz70_1, hcz70_2, hcz70_3, hfz70_0, hfz70_1, hfz70_2, hfz70_3⟩ := Ke4_ BK198.out) | ((with_reducible refine gate_callee (f := 54) rfl ?_); refine Kg_ (some 57) rfl rfl Try.func54 (by kernel_rfl) rfl #[.agg #[.string t206, .bool t207], .int .i64 32] rfl ?_; (with_reducible refine (pack_Reader_Text.calls kj11 t206 t207 32 t211 t212 t213 _ A55.out).mono ?_); rintro e w71 ⟨rfl, hb⟩; refine ⟨_, rfl, ?_⟩; replace HO_100 := Aside0.mk (Kd.R_below (by (with_reducible repeat (first | apply Kd.R_alloc | apply Kd.R_drewN | apply Kd.R_drew)); exact (Kd.R_mono (Kd.R_mono (Kd.R_far (p := ⟨gb198, 3, none⟩) (Kd.R_far (p := ⟨gb187, 1, none⟩) (Kd.R_far (p := ⟨gb187, 0, none⟩) (Kd.R_mono (Kd.R_types HO_100.out BK187.out (by decide)) (fun k_ hk => (⟨hk, hk.1.2⟩ : _ ∧ k_ ≠ gb198))) (fun _ hk => hk.1.2) (.string t206)) (fun _ hk => hk.1.2) (.bool t207)) (fun _ hk => hk.2) (.bool false)) (fun _ h_ => h_.1)) (fun _ h_ => h_.1))) hb); replace BK186 := Aside0.mk (blk_below (g := gb186) (o := .cells #[.int .u64 x105_1, .int .u64 x104_1, .int .u64 x103_1, .int .u64 x102_1, .int .i64 x101_1, u187005] 43 (0, 0)) (K2b_ BK186 NB186_198 NB186_187) hb); replace BK187 := Aside0.mk (blk_below (g := gb187) (o := .cells #[.string t206, .bool t207] 97 (0, 0)) (by (repeat (first | (with_reducible first | refine blk_drewN ?_ _ | refine blk_drew ?_ | refine blk_alloc ?_ _) | refine blk_far ?_ NB187_198.out _)); refine blk_put (cs := #[.string t206, .bool t204]) ?_ 1 _ rfl; refine Kv_ ?_; refine blk_put (cs := #[.string t203, .bool t204]) ?_ 0 _ rfl; exact Kq_ BK187) hb); replace BK198 := Aside0.mk (blk_below (g := gb198) (o := .cells #[.string t199, .string t202, .string (⟨#[]⟩ : ByteArray), .bool false] 23 (0, 0)) (by refine Kv_ ?_; refine blk_put (cs := #[.string t199, .string t202, .string (⟨#[]⟩ : ByteArray), .bool false]) ?_ 3 _ rfl; exact K1b_ BK198 NB198_187) hb); replace HB := Aside0.mk (below_step (K3a_ HB GE186 GE187 GE198) hb); (try clear hb); (try clear hb2); (try clear hk); (try clear hi); obtain ⟨hcz72_0, hcz72_1, hcz72_2, hcz72_3, hfz72_0, hfz72_1, hfz72_2, hfz72_3⟩ := Ke4_ BK198.out; obtain ⟨hcz73_0, hcz73_1, hfz73_0, hfz73_1⟩ := Ke2_ BK187.out; obtain ⟨hcz74_0, hcz74_1, hcz74_2, hcz74_3, hcz74_4, hcz74_5, hfz74_0, hfz74_1, hfz74_2, hfz74_3, hfz74_4, hfz74_5⟩ := Ke6_ BK186.out) | ((with_reducible refine gate_builtin (b := .append) (xs := #[.tmp 62, .tmp 64]) rfl ?_); at_builtin; refine Kd.R_append k23 (w0 := w) w.heap.size rfl (.tmp 62) (.tmp 64) 41 23 (.agg #[(.string ⟨#[]⟩), (.string ⟨#[]⟩), (.string ⟨#[]⟩), (.bool false)]) 56 rfl Try.underlying41 info23 rfl (by decide) (by omega) u187005 x100_1 (⟨t199, t202, t211, false⟩ : S23) [.string t199, .string t202, .string t211, .bool false] (fun k_ => k_ ≠ gb198) (fun _ => False) rfl (by first | (go_simp; done) | (go_simp; rfl)) ?aP (fun _ hk => hk.elim) ?aF ?aO ?aB ?aS ?aL ?_; (case aP => exact k23_mkM _ _ _ (⟨t199, t202, t211, false⟩ : S23)); (case aB => exact (K3a_ HB GE186 GE187 GE198)); (case aF => exact (fun k_ hk => Kd.freshB (g := gb198) (o := .cells #[.string t199, .string t202, .string t211, .bool false] 23 (0, 0)) (by (repeat (first | (with_reducible first | refine blk_drewN ?_ _ | refine blk_drew ?_ | refine blk_alloc ?_ _) | refine blk_far ?_ NB198_187.out _)); refine blk_put (cs := #[.string t199, .string t202, .string (⟨#[]⟩ : ByteArray), .bool false]) ?_ 2 _ rfl; exact Kq_ BK198) k_ hk)); (case aO => exact (by (with_reducible repeat (first | apply Kd.R_alloc | apply Kd.R_drewN | apply Kd.R_drew)); exact Kd.R_mono (Kd.R_far (p := ⟨gb187, 1, none⟩) (Kd.R_far (p := ⟨gb187, 0, none⟩) (Kd.R_far (p := ⟨gb198, 2, none⟩) (Kd.R_types (Kd.R_mono HO_100.out (fun k_ hk => (⟨hk, hk.2⟩ : _ ∧ k_ ≠ gb198))) BK187.out (by decide)) (fun _ hk => hk.1.2) (.string t211)) (fun _ hk => hk.2) (.string t212)) (fun _ hk => hk.2) (.bool t213)) (fun _ hk => hk.1.1.2))); (case aS => exact (below_size (K3a_ HB GE186 GE187 GE198))); (case aL => have := LMc56.out; omega); intro v215 w75 ho hb hg hat; rw [← Ny214.out] at ho; have HO216 := Aside0.mk (ho); replace BK186 := Aside0.mk (blk_grown (g := gb186) (o := .cells #[.int .u64 x105_1, .int .u64 x104_1, .int .u64 x103_1, .int .u64 x102_1, .int .i64 x101_1, u187005] 43 (0, 0)) (K2b_ BK186 NB186_187 NB186_198) hg (Kd.R_ne HO_100.out BK186.out (by decide))); replace BK187 := Aside0.mk (blk_grown (g := gb187) (o := .cells #[.string t212, .bool t213] 97 (0, 0)) (by refine Kv_ ?_; refine blk_put (cs := #[.string t212, .bool t207]) ?_ 1 _ rfl; refine Kv_ ?_; refine blk_put (cs := #[.string t206, .bool t207]) ?_ 0 _ rfl; exact K1b_ BK187 NB187_198) hg (Kd.R_ne HO_100.out BK187.out (by decide))); replace BK198 := Aside0.mk (blk_grown (g := gb198) (o := .cells #[.string t199, .string t202, .string t211, .bool false] 23 (0, 0)) (by (repeat (first | (with_reducible first | refine blk_drewN ?_ _ | refine blk_drew ?_ | refine blk_alloc ?_ _) | refine blk_far ?_ NB198_187.out _)); refine blk_put (cs := #[.string t199, .string t202, .string (⟨#[]⟩ : ByteArray), .bool false]) ?_ 2 _ rfl; exact Kq_ BK198) hg (Kd.R_away HO_100.out (fun _ hk => hk.2))); replace HB := Aside0.mk (hb); clear HO_100; clear ho hb hg hat; obtain ⟨Ao76, co76, eo76⟩ := Kd.R_slice HO216.out; subst eo76; obtain ⟨hcz77_0, hcz77_1, hcz77_2, hcz77_3, hcz77_4, hcz77_5, hfz77_0, hfz77_1, hfz77_2, hfz77_3, hfz77_4, hfz77_5⟩ := Ke6_ BK186.out))
     go_roundg kj11
     case measure => have := HK1.out; have := HJ11.out; omega
     case rel => exact ⟨(IntKind.u64.wrap (x4_1 - 1)), (x105_1), (x104_1), (x103_1), (x102_1), (x101_1), (y214), (t212), (t213), (.slice Ao76 y214.length co76), (by first | rfl | (simp; done) | (simp [*]; done)), H', ⟨by have := HK1.out; have := HJ11.out; omega⟩, ⟨by (with_reducible repeat (first | apply Kd.R_alloc | apply Kd.R_drewN | apply Kd.R_drew)); exact Kd.R_mono (Kd.R_far (p := ⟨gb186, 5, none⟩) (Kd.R_types HO216.out BK186.out (by decide)) (fun _ hk => hk.2) (.slice Ao76 y214.length co76)) (fun _ hk => trivial)⟩, ⟨by refine Kv_ ?_; refine blk_put (cs := #[.int .u64 x105_1, .int .u64 x104_1, .int .u64 x103_1, .int .u64 x102_1, .int .i64 x101_1, u187005]) ?_ 5 _ rfl; exact Kq_ BK186⟩, ⟨by exact K1b_ BK187 NB187_186⟩, ⟨K3a_ HB GE186 GE187 GE198⟩⟩
end Go.Proofs.Ytoogchgoiciggaa.Q
