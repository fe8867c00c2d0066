import Derived.Test.YtoogchgoiciggaaQx0
import Derived.Test.YtoogchgoiciggaaGItemParts0
import Derived.Test.YtoogchgoiciggaaGItemParts6
import Derived.Test.YtoogchgoiciggaaGItemParts10
import Derived.Test.YtoogchgoiciggaaWBMore
import Derived.Test.YtoogchgoiciggaaGItemParts3
import Derived.Test.YtoogchgoiciggaaGItemParts8
import Derived.Test.YtoogchgoiciggaaGItemParts9
-- Written by this session's own driver (wip/hybrid.py) of the kit's printer; contracts marked FOREIGN are by hand.
namespace Go.Proofs.Ytoogchgoiciggaa.Q
open Go.RowKit Go.Proofs.YtoogchgoiciggaaW.PrintWords Go.Proofs.YtoogchgoiciggaaW.PrintLast Go.Proofs.YtoogchgoiciggaaW.PrintMore
attribute [local go_sem] max2_int min2_int max_two min_two max_three min_three max_four min_four   -- for this text's walks alone
set_option linter.unusedVariables false
set_option linter.unusedSimpArgs false

/-! ### tenementlaw08_ItemParts: function 7 -/
mutual
def tenementlaw08_ItemParts.l0 : Nat → Bool → Int → Int → Int → Int → Int → Int → Int → Int → List (S23) → Option (Bool)
  | 0, _, _, _, _, _, _, _, _, _, _ => none
  | k + 1, x5, x7, x8, x9, x685000, x685001, x685002, x685003, x685004, x685005 => if x9 ≤ (wrap64 (x7 + 1)) then ((item_Of.f k x685000 x685001 x685002 x685003 x685004 x685005 x9 x7).bind fun t687 => (tenementlaw08_ItemParts.l1 k x5 x7 (wrap64 (x8 + (t687.length : Int))) x9 t687 0 x685000 x685001 x685002 x685003 x685004 x685005)) else (if x5 = true then (if x8 = (x685005.length : Int) then ((item_Shard.f k (⟨#[98]⟩ : ByteArray) (⟨#[107]⟩ : ByteArray) 0).bind fun t685 => (if t685 = 1 then ((item_Shard.f k (⟨#[98]⟩ : ByteArray) (⟨#[107]⟩ : ByteArray) (-5)).bind fun t686 => (if t686 = 1 then (some true) else (none))) else (none))) else (none)) else (none))
def tenementlaw08_ItemParts.l1 : Nat → Bool → Int → Int → Int → List (S23) → Int → Int → Int → Int → Int → Int → List (S23) → Option (Bool)
  | 0, _, _, _, _, _, _, _, _, _, _, _, _ => none
  | k + 1, x5, x7, x8, x9, x10, x11, x685000, x685001, x685002, x685003, x685004, x685005 => if x11 < (x10.length : Int) then (if 0 ≤ x11 then ((item_Shard.f k ((rd_T23 x10 x11).f0) ((rd_T23 x10 x11).f1) x7).bind fun t692 => (if t692 = x9 then (if x9 < 1 then (none) else (if x9 > x7 then (none) else (tenementlaw08_ItemParts.l1 k x5 x7 x8 x9 x10 (wrap64 (x11 + 1)) x685000 x685001 x685002 x685003 x685004 x685005))) else (none))) else (none)) else (tenementlaw08_ItemParts.l0 k x5 x7 x8 (wrap64 (x9 + 1)) x685000 x685001 x685002 x685003 x685004 x685005)
end
def tenementlaw08_ItemParts.f (k : Nat) (a0_0 : Int) (a0_1 : Int) (a0_2 : Int) (a0_3 : Int) (a0_4 : Int) (a0_5 : Bool) (l0_6 : List (S25)) (a0_7 : Bool) (a1 : Int) : Option (Bool) := (tenementlaw08_examples.f k).bind fun t675 => (if t675 = true then ((tenementlaw08_Deal_deal.f k a0_0 a0_1 a0_2 a0_3 a0_4 a0_5 l0_6 true).bind fun bt676 => (tenementlaw08_ItemParts.l0 k t675 (wrap64 (1 + (wrap64 (Int.tmod a1 8)))) 0 0 bt676.1 bt676.2.1 bt676.2.2.1 bt676.2.2.2.1 bt676.2.2.2.2.1 bt676.2.2.2.2.2)) else (none))
theorem tenementlaw08_ItemParts.mono_l : ∀ k, (∀ y0 y1 y2 y3 y4 y5 y6 y7 y8 y9, LeO (tenementlaw08_ItemParts.l0 k y0 y1 y2 y3 y4 y5 y6 y7 y8 y9) (tenementlaw08_ItemParts.l0 (k + 1) y0 y1 y2 y3 y4 y5 y6 y7 y8 y9)) ∧ (∀ y0 y1 y2 y3 y4 y5 y6 y7 y8 y9 y10 y11, LeO (tenementlaw08_ItemParts.l1 k y0 y1 y2 y3 y4 y5 y6 y7 y8 y9 y10 y11) (tenementlaw08_ItemParts.l1 (k + 1) y0 y1 y2 y3 y4 y5 y6 y7 y8 y9 y10 y11))
  | 0 => ⟨fun _ _ _ _ _ _ _ _ _ _ r h => by simp [tenementlaw08_ItemParts.l0] at h, fun _ _ _ _ _ _ _ _ _ _ _ _ r h => by simp [tenementlaw08_ItemParts.l1] at h⟩
  | k + 1 => by
    obtain ⟨ih0, ih1⟩ := tenementlaw08_ItemParts.mono_l k
    refine ⟨?_, ?_⟩
    · intro y0 y1 y2 y3 y4 y5 y6 y7 y8 y9
      unfold tenementlaw08_ItemParts.l0
      repeat' first
      | (with_reducible exact ih0 _ _ _ _ _ _ _ _ _ _)
      | (with_reducible exact ih1 _ _ _ _ _ _ _ _ _ _ _ _)
      | (with_reducible exact item_Of.mono _ _ _ _ _ _ _ _ _)
      | (with_reducible exact item_Shard.mono _ _ _ _)
      | (with_reducible exact tenementlaw08_Deal_deal.mono _ _ _ _ _ _ _ _ _)
      | (with_reducible exact tenementlaw08_examples.mono _)
      | (with_reducible exact LeO.refl _)
      | (with_reducible exact LeO.none _)
      | (with_reducible refine LeO.ite ?_ ?_)
      | (with_reducible refine LeO.bind ?_ (fun _ => ?_))
      | exact ih0 _ _ _ _ _ _ _ _ _ _
      | exact ih1 _ _ _ _ _ _ _ _ _ _ _ _
      | exact item_Of.mono _ _ _ _ _ _ _ _ _
      | exact item_Shard.mono _ _ _ _
      | exact tenementlaw08_Deal_deal.mono _ _ _ _ _ _ _ _ _
      | exact tenementlaw08_examples.mono _
      | exact LeO.none _
      | refine LeO.ite ?_ ?_
      | refine LeO.bind ?_ (fun _ => ?_)
    · intro y0 y1 y2 y3 y4 y5 y6 y7 y8 y9 y10 y11
      unfold tenementlaw08_ItemParts.l1
      repeat' first
      | (with_reducible exact ih0 _ _ _ _ _ _ _ _ _ _)
      | (with_reducible exact ih1 _ _ _ _ _ _ _ _ _ _ _ _)
      | (with_reducible exact item_Of.mono _ _ _ _ _ _ _ _ _)
      | (with_reducible exact item_Shard.mono _ _ _ _)
      | (with_reducible exact tenementlaw08_Deal_deal.mono _ _ _ _ _ _ _ _ _)
      | (with_reducible exact tenementlaw08_examples.mono _)
      | (with_reducible exact LeO.refl _)
      | (with_reducible exact LeO.none _)
      | (with_reducible refine LeO.ite ?_ ?_)
      | (with_reducible refine LeO.bind ?_ (fun _ => ?_))
      | exact ih0 _ _ _ _ _ _ _ _ _ _
      | exact ih1 _ _ _ _ _ _ _ _ _ _ _ _
      | exact item_Of.mono _ _ _ _ _ _ _ _ _
      | exact item_Shard.mono _ _ _ _
      | exact tenementlaw08_Deal_deal.mono _ _ _ _ _ _ _ _ _
      | exact tenementlaw08_examples.mono _
      | exact LeO.none _
      | refine LeO.ite ?_ ?_
      | refine LeO.bind ?_ (fun _ => ?_)
theorem tenementlaw08_ItemParts.mono : ∀ a0 a1 a2 a3 a4 a5 a6 a7 a8 k, LeO (tenementlaw08_ItemParts.f k a0 a1 a2 a3 a4 a5 a6 a7 a8) (tenementlaw08_ItemParts.f (k + 1) a0 a1 a2 a3 a4 a5 a6 a7 a8) := by
  intro a0 a1 a2 a3 a4 a5 a6 a7 a8 k
  obtain ⟨ih0, ih1⟩ := tenementlaw08_ItemParts.mono_l k
  unfold tenementlaw08_ItemParts.f
  repeat' first
      | (with_reducible exact ih0 _ _ _ _ _ _ _ _ _ _)
      | (with_reducible exact ih1 _ _ _ _ _ _ _ _ _ _ _ _)
      | (with_reducible exact item_Of.mono _ _ _ _ _ _ _ _ _)
      | (with_reducible exact item_Shard.mono _ _ _ _)
      | (with_reducible exact tenementlaw08_Deal_deal.mono _ _ _ _ _ _ _ _ _)
      | (with_reducible exact tenementlaw08_examples.mono _)
      | (with_reducible exact LeO.refl _)
      | (with_reducible exact LeO.none _)
      | (with_reducible refine LeO.ite ?_ ?_)
      | (with_reducible refine LeO.bind ?_ (fun _ => ?_))
      | exact ih0 _ _ _ _ _ _ _ _ _ _
      | exact ih1 _ _ _ _ _ _ _ _ _ _ _ _
      | exact item_Of.mono _ _ _ _ _ _ _ _ _
      | exact item_Shard.mono _ _ _ _
      | exact tenementlaw08_Deal_deal.mono _ _ _ _ _ _ _ _ _
      | exact tenementlaw08_examples.mono _
      | exact LeO.none _
      | refine LeO.ite ?_ ?_
      | refine LeO.bind ?_ (fun _ => ?_)
def tenementlaw08_ItemParts.T16 : Bool × List (List Nat × List Nat) := (true, [([], []), ([], []), ([0, 1], [0, 1]), ([2], [2]), ([3], [3]), ([], []), ([], []), ([5, 6], [5, 6]), ([7], [7]), ([8], [8]), ([], []), ([4, 9, 10], [4, 9, 10]), ([], []), ([11, 12], [11, 12]), ([13, 11], [13]), ([14], [14]), ([15, 14], [14, 15]), ([14, 16], [14, 16]), ([17, 14], [17]), ([18], [18]), ([18], [18]), ([19, 20, 18], [18, 19, 20]), ([18, 21], [18, 21])])
def tenementlaw08_ItemParts.B16 : List Nat := [0, 0, 3, 7, 15, 0, 0, 96, 224, 480, 0, 2047, 0, 8191, 16383, 32767, 65535, 131071, 262143, 524287, 524287, 2097151, 4194303]
theorem tenementlaw08_ItemParts.tab16 : rtab .any (opsOf Try.f7 16) = tenementlaw08_ItemParts.T16 := by kernel_rfl
theorem tenementlaw08_ItemParts.bits16 : waitsOk tenementlaw08_ItemParts.T16.2 tenementlaw08_ItemParts.B16 = true := by kernel_rfl
set_option maxHeartbeats 8000000 in
set_option maxRecDepth 100000 in
theorem tenementlaw08_ItemParts.calls (k : Nat) (a0_0 : Int) (a0_1 : Int) (a0_2 : Int) (a0_3 : Int) (a0_4 : Int) (a0_5 : Bool) (A0_6 : Option Addr) (c0_6 : Nat) (l0_6 : List (S25)) (a0_7 : Bool) (a1 : Int) (r : Bool) (w : World) (hr0_6 : Kd.C k25 w A0_6 l0_6.length l0_6) (hc0_6 : l0_6.length ≤ c0_6) (h : tenementlaw08_ItemParts.f k a0_0 a0_1 a0_2 a0_3 a0_4 a0_5 l0_6 a0_7 a1 = some r) :
    Calls Try.prog 7 #[.agg #[.int .u64 a0_0, .int .u64 a0_1, .int .u64 a0_2, .int .u64 a0_3, .int .i64 a0_4, .bool a0_5, .slice A0_6 l0_6.length c0_6, .bool a0_7], .int .u8 a1] w fun e w' => e = .returned (.bool r) ∧ Below w.heap.size w w' := by
  have hu35 := Try.underlying35
  have hu43 := Try.underlying43
  have HR0_6 := Aside0.mk hr0_6
  have HC0_6 := Aside0.mk hc0_6
  clear hr0_6 hc0_6
  have HB := Aside0.mk (Below.refl w.heap.size w)
  have H : ((tenementlaw08_examples.f k).bind fun t675 => (if t675 = true then ((tenementlaw08_Deal_deal.f k a0_0 a0_1 a0_2 a0_3 a0_4 a0_5 l0_6 true).bind fun bt676 => (tenementlaw08_ItemParts.l0 k t675 (wrap64 (1 + (wrap64 (Int.tmod a1 8)))) 0 0 bt676.1 bt676.2.1 bt676.2.2.1 bt676.2.2.2.1 bt676.2.2.2.2.1 bt676.2.2.2.2.2)) else (none))) = some r := h
  clear h
  replace H := Option.bind_eq_some_iff.mp H
  obtain ⟨t675, A30, H⟩ := H
  replace H : (if t675 = true then ((tenementlaw08_Deal_deal.f k a0_0 a0_1 a0_2 a0_3 a0_4 a0_5 l0_6 true).bind fun bt676 => (tenementlaw08_ItemParts.l0 k t675 (wrap64 (1 + (wrap64 (Int.tmod a1 8)))) 0 0 bt676.1 bt676.2.1 bt676.2.2.1 bt676.2.2.2.1 bt676.2.2.2.2.1 bt676.2.2.2.2.2)) else (none)) = some r := H
  have A3 := Aside0.mk A30
  clear A30
  by_cases c4 : t675 = true
  rotate_left
  · replace c4 := Bool.eq_false_iff.mpr c4
    subst c4
    have H1 : (none) = some r := by rw [if_neg (show ¬ (false = true) by decide)] at H; exact H
    clear H
    have H := H1
    clear H1
    exact absurd H (by simp)
  subst c4
  have H1 : ((tenementlaw08_Deal_deal.f k a0_0 a0_1 a0_2 a0_3 a0_4 a0_5 l0_6 true).bind fun bt676 => (tenementlaw08_ItemParts.l0 k true (wrap64 (1 + (wrap64 (Int.tmod a1 8)))) 0 0 bt676.1 bt676.2.1 bt676.2.2.1 bt676.2.2.2.1 bt676.2.2.2.2.1 bt676.2.2.2.2.2)) = some r := by rw [if_pos rfl] at H; exact H
  clear H
  have H := H1
  clear H1
  replace H := Option.bind_eq_some_iff.mp H
  obtain ⟨⟨t676, t677, t678, t679, t680, t681⟩, A50, H⟩ := H
  replace H : (tenementlaw08_ItemParts.l0 k true (wrap64 (1 + (wrap64 (Int.tmod a1 8)))) 0 0 t676 t677 t678 t679 t680 t681) = some r := H
  have A5 := Aside0.mk A50
  clear A50
  have H' := Aside0.mk H
  clear H
  go_enter Try.func7, Try.ntmps7
  go_wp2_with (first | ((with_reducible refine gate_dst (N := 2) rfl ?_); refine box_event ?hg (N := 2) ?hd (cs := #[.int .u64 a0_0, .int .u64 a0_1, .int .u64 a0_2, .int .u64 a0_3, .int .i64 a0_4, .bool a0_5, .slice A0_6 l0_6.length c0_6, .bool a0_7]) (t := 35) ?hr ?_; (case hd => rfl); (case hg => rfl); (case hr => first | (go_simp; done) | (go_simp; rfl)); intro gb674 hg w6 hbox hb; have BK674 := Aside0.mk (hbox); have GW674 := Kw_ HB hg; have GE674 := GW674; replace HB := Ks_ HB hb; clear hb hbox hg) | ((with_reducible refine gate_callee (f := 11) rfl ?_); refine goesL_ (some 12) rfl rfl Try.func11 (by kernel_rfl) rfl #[] rfl (by (try simp only [List.map_toArray, List.map_cons, List.map_nil]); first | done | rfl | (simp only [List.length_drop, List.length_take]; rfl)) ?_; (with_reducible refine (tenementlaw08_examples.calls k  true _ A3.out).mono ?_); rintro e w7 ⟨rfl, hb⟩; refine ⟨_, rfl, ?_⟩; replace BK674 := Kb_ BK674 hb; replace HB := Ks_ HB hb; (try clear hb); (try clear hb2); (try clear hk); (try clear hi); obtain ⟨hcz8_0, hcz8_1, hcz8_2, hcz8_3, hcz8_4, hcz8_5, hcz8_6, hcz8_7, hfz8_0, hfz8_1, hfz8_2, hfz8_3, hfz8_4, hfz8_5, hfz8_6, hfz8_7⟩ := Ke8_ BK674.out) | ((with_reducible refine gate_callee (f := 14) rfl ?_); refine goesL_ (some 17) rfl rfl Try.func14 (by kernel_rfl) rfl #[.agg #[.int .u64 a0_0, .int .u64 a0_1, .int .u64 a0_2, .int .u64 a0_3, .int .i64 a0_4, .bool a0_5, .slice A0_6 l0_6.length c0_6, .bool true]] rfl (by (try simp only [List.map_toArray, List.map_cons, List.map_nil]); first | done | rfl | (simp only [List.length_drop, List.length_take]; rfl)) ?_; (with_reducible refine (tenementlaw08_Deal_deal.calls k a0_0 a0_1 a0_2 a0_3 a0_4 a0_5 _ _ l0_6 true t676 t677 t678 t679 t680 t681 _ ?side1 ?side2 A5.out).mono ?_); (case side1 => exact Kd.C_below HR0_6.out (Kz_ HB GE674)); (case side2 => exact HC0_6.out); rintro e w9 ⟨v682, rfl, ho0, hb⟩; refine ⟨_, rfl, ?_⟩; have HO683 := Aside0.mk (Kd.R_lower ho0 (below_size (Kz_ HB GE674))); replace BK674 := Aside0.mk (blk_below (g := gb674) (o := .cells #[.int .u64 a0_0, .int .u64 a0_1, .int .u64 a0_2, .int .u64 a0_3, .int .i64 a0_4, .bool a0_5, .slice A0_6 l0_6.length c0_6, .bool true] 35 (0, 0)) (by (with_reducible repeat (first | refine blk_drewN ?_ _ | refine blk_drew ?_ | refine blk_alloc ?_ _)); refine blk_put (cs := #[.int .u64 a0_0, .int .u64 a0_1, .int .u64 a0_2, .int .u64 a0_3, .int .i64 a0_4, .bool a0_5, .slice A0_6 l0_6.length c0_6, .bool a0_7]) ?_ 7 _ rfl; (with_reducible repeat (first | refine blk_drewN ?_ _ | refine blk_drew ?_ | refine blk_alloc ?_ _)); exact BK674.out) hb); replace HB := Kt_ HB GE674 hb; (try clear hb); (try clear hb2); (try clear hk); (try clear hi); (try clear ho0)) | ((with_reducible refine gate_dst (N := 6) rfl ?_); refine box_event ?hg (N := 6) ?hd (cs := #[.int .u64 0, .int .u64 0, .int .u64 0, .int .u64 0, .int .i64 0, .slice none 0 0]) (t := 43) ?hr ?_; (case hd => rfl); (case hg => rfl); (case hr => first | (go_simp; done) | (go_simp; rfl)); intro gb684 hg w10 hbox hb; have BK684 := Aside0.mk (hbox); have GW684 := Kw_ HB hg; have GE684 := GW684; have NB674_684 := Kl_ BK674 hg; have NB684_674 := Kr_ BK674 hg; replace HO683 := Aside0.mk (Kd.R_below (by (with_reducible repeat (first | apply Kd.R_alloc | apply Kd.R_drewN | apply Kd.R_drew)); exact HO683.out) hb); replace BK674 := Kb_ BK674 hb; replace HB := Ks_ HB hb; clear hb hbox hg; have hnb11 := NB684_674.out; have hnc11 := NB674_684.out; obtain ⟨hcz12_0, hcz12_1, hcz12_2, hcz12_3, hcz12_4, hcz12_5, hfz12_0, hfz12_1, hfz12_2, hfz12_3, hfz12_4, hfz12_5⟩ := Ke6_ BK684.out; obtain ⟨Ao13, co13, eo13⟩ := Kd.R_slice HO683.out; subst eo13))
  go_loopg [8, 9] k (fun kq v8 v9 w' => ∃ (x8_1 : Int) (x9_1 : Int), v8 = .int .i64 x8_1 ∧ v9 = .int .i64 x9_1 ∧ Aside0 (tenementlaw08_ItemParts.l0 kq true (wrap64 (1 + (wrap64 (Int.tmod a1 8)))) x8_1 x9_1 t676 t677 t678 t679 t680 t681 = some r) ∧ Aside0 (kq ≤ k) ∧ Aside0 (Kd.R k23 23 w' w.heap.size (fun _ => True) (.slice Ao13 t681.length co13) t681) ∧ Aside0 (w'.heap[gb674]? = some (.cells #[.int .u64 a0_0, .int .u64 a0_1, .int .u64 a0_2, .int .u64 a0_3, .int .i64 a0_4, .bool a0_5, (.slice A0_6 l0_6.length c0_6), .bool true] 35 (0, 0))) ∧ Aside0 (w'.heap[gb684]? = some (.cells #[.int .u64 t676, .int .u64 t677, .int .u64 t678, .int .u64 t679, .int .i64 t680, (.slice Ao13 t681.length co13)] 43 (0, 0))) ∧ Aside0 (Below w.heap.size w w'))
  case atStart => exact ⟨(0), (0), (by first | rfl | (simp; done) | (simp [*]; done)), (by first | rfl | (simp; done) | (simp [*]; done)), H', ⟨Nat.le_refl _⟩, ⟨by (with_reducible repeat (first | apply Kd.R_alloc | apply Kd.R_drewN | apply Kd.R_drew)); exact Kd.R_mono (Kd.R_far (p := ⟨gb684, 5, none⟩) (Kd.R_far (p := ⟨gb684, 4, none⟩) (Kd.R_far (p := ⟨gb684, 3, none⟩) (Kd.R_far (p := ⟨gb684, 2, none⟩) (Kd.R_far (p := ⟨gb684, 1, none⟩) (Kd.R_far (p := ⟨gb684, 0, none⟩) (Kd.R_types HO683.out BK684.out (by decide)) (fun _ hk => hk.2) (.int .u64 t676)) (fun _ hk => hk.2) (.int .u64 t677)) (fun _ hk => hk.2) (.int .u64 t678)) (fun _ hk => hk.2) (.int .u64 t679)) (fun _ hk => hk.2) (.int .i64 t680)) (fun _ hk => hk.2) (.slice Ao13 t681.length co13)) (fun _ hk => trivial)⟩, ⟨by (repeat (first | (with_reducible first | refine blk_drewN ?_ _ | refine blk_drew ?_ | refine blk_alloc ?_ _) | refine blk_far ?_ NB674_684.out _)); exact BK674.out⟩, ⟨by (with_reducible repeat (first | refine blk_drewN ?_ _ | refine blk_drew ?_ | refine blk_alloc ?_ _)); refine blk_put (cs := #[.int .u64 t676, .int .u64 t677, .int .u64 t678, .int .u64 t679, .int .i64 t680, .slice none 0 0]) ?_ 5 _ rfl; (with_reducible repeat (first | refine blk_drewN ?_ _ | refine blk_drew ?_ | refine blk_alloc ?_ _)); refine blk_put (cs := #[.int .u64 t676, .int .u64 t677, .int .u64 t678, .int .u64 t679, .int .i64 0, .slice none 0 0]) ?_ 4 _ rfl; (with_reducible repeat (first | refine blk_drewN ?_ _ | refine blk_drew ?_ | refine blk_alloc ?_ _)); refine blk_put (cs := #[.int .u64 t676, .int .u64 t677, .int .u64 t678, .int .u64 0, .int .i64 0, .slice none 0 0]) ?_ 3 _ rfl; (with_reducible repeat (first | refine blk_drewN ?_ _ | refine blk_drew ?_ | refine blk_alloc ?_ _)); refine blk_put (cs := #[.int .u64 t676, .int .u64 t677, .int .u64 0, .int .u64 0, .int .i64 0, .slice none 0 0]) ?_ 2 _ rfl; (with_reducible repeat (first | refine blk_drewN ?_ _ | refine blk_drew ?_ | refine blk_alloc ?_ _)); refine blk_put (cs := #[.int .u64 t676, .int .u64 0, .int .u64 0, .int .u64 0, .int .i64 0, .slice none 0 0]) ?_ 1 _ rfl; (with_reducible repeat (first | refine blk_drewN ?_ _ | refine blk_drew ?_ | refine blk_alloc ?_ _)); refine blk_put (cs := #[.int .u64 0, .int .u64 0, .int .u64 0, .int .u64 0, .int .i64 0, .slice none 0 0]) ?_ 0 _ rfl; (with_reducible repeat (first | refine blk_drewN ?_ _ | refine blk_drew ?_ | refine blk_alloc ?_ _)); exact BK684.out⟩, ⟨by repeat (first | (with_reducible first | exact HB.out | apply below_alloc | apply pw_below_drewN | apply below_drew1 | refine below_set ?_ GE674.out | refine below_set ?_ GE684.out) | exact HB.out)⟩⟩
  case round =>
    clear H'
    try clear c1
    try clear p2
    try clear c4
    try clear p6
    try clear c7
    try clear c11
    try clear hcz12_0
    try clear hcz12_1
    try clear hcz12_2
    try clear hcz12_3
    try clear hcz12_4
    try clear hcz12_5
    try clear hcz8_0
    try clear hcz8_1
    try clear hcz8_2
    try clear hcz8_3
    try clear hcz8_4
    try clear hcz8_5
    try clear hcz8_6
    try clear hcz8_7
    try clear hfz12_0
    try clear hfz12_1
    try clear hfz12_2
    try clear hfz12_3
    try clear hfz12_4
    try clear hfz12_5
    try clear hfz8_0
    try clear hfz8_1
    try clear hfz8_2
    try clear hfz8_3
    try clear hfz8_4
    try clear hfz8_5
    try clear hfz8_6
    try clear hfz8_7
    obtain ⟨x8_1, x9_1, rfl, rfl, HA, HK1, HO_685005, BK674, BK684, HB⟩ := hrel
    cases gk with
    | zero => exact absurd HA.out (by simp [tenementlaw08_ItemParts.l0])
    | succ k1 =>
      have H := HA.out
      clear HA
      simp only [tenementlaw08_ItemParts.l0] at H
      by_cases c14 : x9_1 ≤ (wrap64 ((wrap64 (1 + (wrap64 (Int.tmod a1 8)))) + 1))
      rotate_left
      · rw [if_neg c14] at H
        have c14b0 : decide (x9_1 ≤ (wrap64 ((wrap64 (1 + (wrap64 (Int.tmod a1 8)))) + 1))) = false := decide_eq_false c14
        clear c14
        replace H : (if x8_1 = (t681.length : Int) then ((item_Shard.f k1 (⟨#[98]⟩ : ByteArray) (⟨#[107]⟩ : ByteArray) 0).bind fun t685 => (if t685 = 1 then ((item_Shard.f k1 (⟨#[98]⟩ : ByteArray) (⟨#[107]⟩ : ByteArray) (-5)).bind fun t686 => (if t686 = 1 then (some true) else (none))) else (none))) else (none)) = some r := by first | (rw [if_pos rfl] at H; exact H) | (rw [if_pos trivial] at H; exact H)
        by_cases c28 : x8_1 = (t681.length : Int)
        rotate_left
        · rw [if_neg c28] at H
          exact absurd H (by simp)
        rw [if_pos c28] at H
        have c28b0 : (x8_1 == (t681.length : Int)) = true := beq_iff_eq.mpr c28
        have c28b1 : (x8_1 != (t681.length : Int)) = false := bne_eq_false_iff_eq.mpr c28
        clear c28
        replace H := Option.bind_eq_some_iff.mp H
        obtain ⟨t685, A290, H⟩ := H
        replace H : (if t685 = 1 then ((item_Shard.f k1 (⟨#[98]⟩ : ByteArray) (⟨#[107]⟩ : ByteArray) (-5)).bind fun t686 => (if t686 = 1 then (some true) else (none))) else (none)) = some r := H
        have A29 := Aside0.mk A290
        clear A290
        by_cases c30 : t685 = 1
        rotate_left
        · rw [if_neg c30] at H
          exact absurd H (by simp)
        rw [if_pos c30] at H
        have c30b0 : (t685 == 1) = true := beq_iff_eq.mpr c30
        have c30b1 : (t685 != 1) = false := bne_eq_false_iff_eq.mpr c30
        clear c30
        replace H := Option.bind_eq_some_iff.mp H
        obtain ⟨t686, A310, H⟩ := H
        replace H : (if t686 = 1 then (some true) else (none)) = some r := H
        have A31 := Aside0.mk A310
        clear A310
        by_cases c32 : t686 = 1
        rotate_left
        · rw [if_neg c32] at H
          exact absurd H (by simp)
        rw [if_pos c32] at H
        have c32b0 : (t686 == 1) = true := beq_iff_eq.mpr c32
        have c32b1 : (t686 != 1) = false := bne_eq_false_iff_eq.mpr c32
        clear c32
        obtain rfl := Option.some.inj H
        have hnb33 := NB684_674.out
        have hnc33 := NB674_684.out
        have hcz34_0 : wr.cell? ⟨gb684, 0, none⟩ = some (.int .u64 t676) := (blk_cell BK684.out 0).trans rfl
        have hcz34_1 : wr.cell? ⟨gb684, 1, none⟩ = some (.int .u64 t677) := (blk_cell BK684.out 1).trans rfl
        have hcz34_2 : wr.cell? ⟨gb684, 2, none⟩ = some (.int .u64 t678) := (blk_cell BK684.out 2).trans rfl
        have hcz34_3 : wr.cell? ⟨gb684, 3, none⟩ = some (.int .u64 t679) := (blk_cell BK684.out 3).trans rfl
        have hcz34_4 : wr.cell? ⟨gb684, 4, none⟩ = some (.int .i64 t680) := (blk_cell BK684.out 4).trans rfl
        have hcz34_5 : wr.cell? ⟨gb684, 5, none⟩ = some (.slice Ao13 t681.length co13) := (blk_cell BK684.out 5).trans rfl
        have hfz34_0 := blk_frozen BK684.out 0
        have hfz34_1 := blk_frozen BK684.out 1
        have hfz34_2 := blk_frozen BK684.out 2
        have hfz34_3 := blk_frozen BK684.out 3
        have hfz34_4 := blk_frozen BK684.out 4
        have hfz34_5 := blk_frozen BK684.out 5
        go_wp2_with (first | (go_at_call 28; (with_reducible refine (item_Shard.calls k1 (⟨#[98]⟩ : ByteArray) (⟨#[107]⟩ : ByteArray) 0 t685 _ A29.out).mono ?_); rintro e w35 ⟨rfl, hb⟩; replace HO_685005 := Aside0.mk (Kd.R_below (by (with_reducible repeat (first | apply Kd.R_alloc | apply Kd.R_drewN | apply Kd.R_drew)); exact HO_685005.out) hb); replace BK674 := Kb_ BK674 hb; replace BK684 := Kb_ BK684 hb; replace HB := Ks_ HB hb; (try clear hb); (try clear hb2); (try clear hk); (try clear hi)) | (go_at_call 28; (with_reducible refine (item_Shard.calls k1 (⟨#[98]⟩ : ByteArray) (⟨#[107]⟩ : ByteArray) (-5) t686 _ A31.out).mono ?_); rintro e w36 ⟨rfl, hb⟩; replace HO_685005 := Aside0.mk (Kd.R_below (by (with_reducible repeat (first | apply Kd.R_alloc | apply Kd.R_drewN | apply Kd.R_drew)); exact HO_685005.out) hb); replace BK674 := Kb_ BK674 hb; replace BK684 := Kb_ BK684 hb; replace HB := Ks_ HB hb; (try clear hb); (try clear hb2); (try clear hk); (try clear hi)))
        go_ret
        exact ⟨by first | rfl | (simp [errW_none, errW_some] <;> rfl) | (simp [*, errW_none, errW_some] <;> rfl), by repeat (first | (with_reducible first | exact HB.out | apply below_alloc | apply pw_below_drewN | apply below_drew1 | refine below_set ?_ GE674.out | refine below_set ?_ GE684.out) | exact HB.out)⟩
      rw [if_pos c14] at H
      have c14b0 : decide (x9_1 ≤ (wrap64 ((wrap64 (1 + (wrap64 (Int.tmod a1 8)))) + 1))) = true := decide_eq_true c14
      clear c14
      replace H := Option.bind_eq_some_iff.mp H
      obtain ⟨t687, A150, H⟩ := H
      replace H : (tenementlaw08_ItemParts.l1 k1 true (wrap64 (1 + (wrap64 (Int.tmod a1 8)))) (wrap64 (x8_1 + (t687.length : Int))) x9_1 t687 0 t676 t677 t678 t679 t680 t681) = some r := H
      have A15 := Aside0.mk A150
      clear A150
      have H' := Aside0.mk H
      clear H
      have hnb16 := NB684_674.out
      have hnc16 := NB674_684.out
      have hcz17_0 : wr.cell? ⟨gb684, 0, none⟩ = some (.int .u64 t676) := (blk_cell BK684.out 0).trans rfl
      have hcz17_1 : wr.cell? ⟨gb684, 1, none⟩ = some (.int .u64 t677) := (blk_cell BK684.out 1).trans rfl
      have hcz17_2 : wr.cell? ⟨gb684, 2, none⟩ = some (.int .u64 t678) := (blk_cell BK684.out 2).trans rfl
      have hcz17_3 : wr.cell? ⟨gb684, 3, none⟩ = some (.int .u64 t679) := (blk_cell BK684.out 3).trans rfl
      have hcz17_4 : wr.cell? ⟨gb684, 4, none⟩ = some (.int .i64 t680) := (blk_cell BK684.out 4).trans rfl
      have hcz17_5 : wr.cell? ⟨gb684, 5, none⟩ = some (.slice Ao13 t681.length co13) := (blk_cell BK684.out 5).trans rfl
      have hfz17_0 := blk_frozen BK684.out 0
      have hfz17_1 := blk_frozen BK684.out 1
      have hfz17_2 := blk_frozen BK684.out 2
      have hfz17_3 := blk_frozen BK684.out 3
      have hfz17_4 := blk_frozen BK684.out 4
      have hfz17_5 := blk_frozen BK684.out 5
      go_wp2_with (first | ((with_reducible refine gate_callee (f := 26) rfl ?_); refine goesL_ (some 31) rfl rfl Try.func26 (by kernel_rfl) rfl #[.agg #[.int .u64 t676, .int .u64 t677, .int .u64 t678, .int .u64 t679, .int .i64 t680, .slice Ao13 t681.length co13], .int .i64 x9_1, .int .i64 (wrap64 (1 + (wrap64 (Int.tmod a1 8))))] rfl (by (try simp only [List.map_toArray, List.map_cons, List.map_nil]); first | done | rfl | (simp only [List.length_drop, List.length_take]; rfl)) ?_; (with_reducible refine (item_Of.calls k1 t676 t677 t678 t679 t680 _ _ t681 x9_1 (wrap64 (1 + (wrap64 (Int.tmod a1 8)))) t687 _ ?side1 ?side2 A15.out).mono ?_); (case side1 => repeat (first | exact (Kd.R_reads' HO_685005.out).2.2 | (with_reducible refine Kd.C_alloc ?_ _) | (with_reducible refine Kd.C_drewN ?_ _) | (with_reducible refine Kd.C_drew ?_))); (case side2 => exact (Kd.R_reads' HO_685005.out).2.1); rintro e w18 ⟨v688, rfl, ho0, hb⟩; refine ⟨_, rfl, ?_⟩; have HO689 := Aside0.mk (Kd.R_lower (Kd.R_new' ho0 (Kd.R_lt (by (with_reducible repeat (first | apply Kd.R_alloc | apply Kd.R_drewN | apply Kd.R_drew)); exact HO_685005.out))) (below_size (by repeat (first | (with_reducible first | exact HB.out | apply below_alloc | apply pw_below_drewN | apply below_drew1 | refine below_set ?_ GE674.out | refine below_set ?_ GE684.out) | exact HB.out)))); replace HO_685005 := Aside0.mk (Kd.R_elder' (by (with_reducible repeat (first | apply Kd.R_alloc | apply Kd.R_drewN | apply Kd.R_drew)); exact HO_685005.out) (Kd.R_base ho0) hb); replace BK674 := Kb_ BK674 hb; replace BK684 := Kb_ BK684 hb; replace HB := Ks_ HB hb; (try clear hb); (try clear hb2); (try clear hk); (try clear hi); (try clear ho0); obtain ⟨Ao19, co19, eo19⟩ := Kd.R_slice HO689.out; subst eo19))
      go_loopg [11] k1 (fun kq v11 w' => ∃ (x11_2 : Int), v11 = .int .i64 x11_2 ∧ Aside0 (tenementlaw08_ItemParts.l1 kq true (wrap64 (1 + (wrap64 (Int.tmod a1 8)))) (wrap64 (x8_1 + (t687.length : Int))) x9_1 t687 x11_2 t676 t677 t678 t679 t680 t681 = some r) ∧ Aside0 (kq ≤ k1) ∧ Aside0 (Kd.R k23 23 w' w.heap.size (fun k_ => some k_ ≠ ((.slice Ao13 t681.length co13) : Value).ownBlock) (.slice Ao19 t687.length co19) t687) ∧ Aside0 (Kd.R k23 23 w' w.heap.size (fun k_ => some k_ ≠ ((.slice Ao19 t687.length co19) : Value).ownBlock) (.slice Ao13 t681.length co13) t681) ∧ Aside0 (w'.heap[gb674]? = some (.cells #[.int .u64 a0_0, .int .u64 a0_1, .int .u64 a0_2, .int .u64 a0_3, .int .i64 a0_4, .bool a0_5, (.slice A0_6 l0_6.length c0_6), .bool true] 35 (0, 0))) ∧ Aside0 (w'.heap[gb684]? = some (.cells #[.int .u64 t676, .int .u64 t677, .int .u64 t678, .int .u64 t679, .int .i64 t680, (.slice Ao13 t681.length co13)] 43 (0, 0))) ∧ Aside0 (Below w.heap.size w w'))
      case atStart => exact ⟨(0), (by first | rfl | (simp; done) | (simp [*]; done)), H', ⟨Nat.le_refl _⟩, ⟨by (with_reducible repeat (first | apply Kd.R_alloc | apply Kd.R_drewN | apply Kd.R_drew)); exact Kd.R_mono HO689.out (fun _ hk => hk.2)⟩, ⟨by (with_reducible repeat (first | apply Kd.R_alloc | apply Kd.R_drewN | apply Kd.R_drew)); exact Kd.R_mono HO_685005.out (fun _ hk => hk.2)⟩, ⟨by (with_reducible repeat (first | refine blk_drewN ?_ _ | refine blk_drew ?_ | refine blk_alloc ?_ _)); exact BK674.out⟩, ⟨by (with_reducible repeat (first | refine blk_drewN ?_ _ | refine blk_drew ?_ | refine blk_alloc ?_ _)); exact BK684.out⟩, ⟨by repeat (first | (with_reducible first | exact HB.out | apply below_alloc | apply pw_below_drewN | apply below_drew1 | refine below_set ?_ GE674.out | refine below_set ?_ GE684.out) | exact HB.out)⟩⟩
      case round =>
        clear H'
        try clear c1
        try clear c2
        try clear p2
        try clear c4
        try clear p6
        try clear c7
        try clear c11
        try clear c14
        try clear c14b0
        try clear c16
        try clear hcz12_0
        try clear hcz12_1
        try clear hcz12_2
        try clear hcz12_3
        try clear hcz12_4
        try clear hcz12_5
        try clear hcz17_0
        try clear hcz17_1
        try clear hcz17_2
        try clear hcz17_3
        try clear hcz17_4
        try clear hcz17_5
        try clear hcz8_0
        try clear hcz8_1
        try clear hcz8_2
        try clear hcz8_3
        try clear hcz8_4
        try clear hcz8_5
        try clear hcz8_6
        try clear hcz8_7
        try clear hfz12_0
        try clear hfz12_1
        try clear hfz12_2
        try clear hfz12_3
        try clear hfz12_4
        try clear hfz12_5
        try clear hfz17_0
        try clear hfz17_1
        try clear hfz17_2
        try clear hfz17_3
        try clear hfz17_4
        try clear hfz17_5
        try clear hfz8_0
        try clear hfz8_1
        try clear hfz8_2
        try clear hfz8_3
        try clear hfz8_4
        try clear hfz8_5
        try clear hfz8_6
        try clear hfz8_7
        try clear p2
        try clear p6
        obtain ⟨x11_2, rfl, HA, HK2, HO_10, HO_685005, BK674, BK684, HB⟩ := hrel
        cases gk with
        | zero => exact absurd HA.out (by simp [tenementlaw08_ItemParts.l1])
        | succ k2 =>
          have H := HA.out
          clear HA
          simp only [tenementlaw08_ItemParts.l1] at H
          by_cases c20 : x11_2 < (t687.length : Int)
          rotate_left
          · rw [if_neg c20] at H
            have c20b0 : decide (x11_2 < (t687.length : Int)) = false := decide_eq_false c20
            clear c20
            have H' := Aside0.mk H
            clear H
            go_wp2
            go_roundg k2
            case measure => have := HK1.out; have := HK2.out; omega
            case rel => exact ⟨((wrap64 (x8_1 + (t687.length : Int)))), (wrap64 (x9_1 + 1)), (by first | rfl | (simp; done) | (simp [*]; done)), (by first | rfl | (simp; done) | (simp [*]; done)), H', ⟨by have := HK1.out; have := HK2.out; omega⟩, ⟨by (with_reducible repeat (first | apply Kd.R_alloc | apply Kd.R_drewN | apply Kd.R_drew)); exact Kd.R_mono HO_685005.out (fun _ hk => trivial)⟩, ⟨by (with_reducible repeat (first | refine blk_drewN ?_ _ | refine blk_drew ?_ | refine blk_alloc ?_ _)); exact BK674.out⟩, ⟨by (with_reducible repeat (first | refine blk_drewN ?_ _ | refine blk_drew ?_ | refine blk_alloc ?_ _)); exact BK684.out⟩, ⟨by repeat (first | (with_reducible first | exact HB.out | apply below_alloc | apply pw_below_drewN | apply below_drew1 | refine below_set ?_ GE674.out | refine below_set ?_ GE684.out) | exact HB.out)⟩⟩
          rw [if_pos c20] at H
          have c20b0 : decide (x11_2 < (t687.length : Int)) = true := decide_eq_true c20
          clear c20
          by_cases c21 : 0 ≤ x11_2
          rotate_left
          · rw [if_neg c21] at H
            exact absurd H (by simp)
          rw [if_pos c21] at H
          have c21b0 : decide (0 ≤ x11_2) = true := decide_eq_true c21
          clear c21
          replace H := Option.bind_eq_some_iff.mp H
          obtain ⟨t692, A220, H⟩ := H
          replace H : (if t692 = x9_1 then (if x9_1 < 1 then (none) else (if x9_1 > (wrap64 (1 + (wrap64 (Int.tmod a1 8)))) then (none) else (tenementlaw08_ItemParts.l1 k2 true (wrap64 (1 + (wrap64 (Int.tmod a1 8)))) (wrap64 (x8_1 + (t687.length : Int))) x9_1 t687 (wrap64 (x11_2 + 1)) t676 t677 t678 t679 t680 t681))) else (none)) = some r := H
          have A22 := Aside0.mk A220
          clear A220
          by_cases c23 : t692 = x9_1
          rotate_left
          · rw [if_neg c23] at H
            exact absurd H (by simp)
          rw [if_pos c23] at H
          have c23b0 : (t692 == x9_1) = true := beq_iff_eq.mpr c23
          have c23b1 : (t692 != x9_1) = false := bne_eq_false_iff_eq.mpr c23
          clear c23
          by_cases c24 : x9_1 < 1
          · rw [if_pos c24] at H
            exact absurd H (by simp)
          rw [if_neg c24] at H
          have c24b0 : decide (x9_1 < 1) = false := decide_eq_false c24
          clear c24
          by_cases c25 : x9_1 > (wrap64 (1 + (wrap64 (Int.tmod a1 8))))
          · rw [if_pos c25] at H
            exact absurd H (by simp)
          rw [if_neg c25] at H
          have c25b0 : decide ((wrap64 (1 + (wrap64 (Int.tmod a1 8)))) < x9_1) = false := decide_eq_false c25
          clear c25
          have H' := Aside0.mk H
          clear H
          try go_wp2
          replace HO_10 := Aside0.mk (Kd.R_drew HO_10.out)
          replace HO_685005 := Aside0.mk (Kd.R_drew HO_685005.out)
          replace BK674 := Kd_ BK674
          replace BK684 := Kd_ BK684
          replace HB := Aside0.mk (below_drew1 HB.out)
          have p690 : 0 ≤ (x11_2 : Int) := of_decide_eq_true (by first | (with_reducible assumption) | assumption)
          have q690 : x11_2 < (t687.length : Int) := of_decide_eq_true (by first | (with_reducible assumption) | assumption)
          obtain ⟨ad690, e690, hx690_0, hx690_1, hx690_2, hx690_3⟩ := at_T23 (Kd.R_reads' HO_10.out).2.2 x11_2 p690 q690
          cases e690
          replace p690 := eq_true p690
          replace q690 := eq_true q690
          have p691 : 0 ≤ (x11_2 : Int) := of_decide_eq_true (by first | (with_reducible assumption) | assumption)
          have q691 : x11_2 < (t687.length : Int) := of_decide_eq_true (by first | (with_reducible assumption) | assumption)
          obtain ⟨ad691, e691, hx691_0, hx691_1, hx691_2, hx691_3⟩ := at_T23 (Kd.R_reads' HO_10.out).2.2 x11_2 p691 q691
          obtain rfl : ad690 = ad691 := (by injection e691)
          replace p691 := eq_true p691
          replace q691 := eq_true q691
          refine start_ (n := 23) (S := fun w' => w'.cell? (ad690.add ((x11_2).toNat * 4)) = some (.string ((rd_T23 t687 x11_2).f0)) ∧ w'.cell? ⟨(ad690.add ((x11_2).toNat * 4)).block, (ad690.add ((x11_2).toNat * 4)).off + 1, none⟩ = some (.string ((rd_T23 t687 x11_2).f1)) ∧ w'.cell? ⟨(ad690.add ((x11_2).toNat * 4)).block, (ad690.add ((x11_2).toNat * 4)).off + 2, none⟩ = some (.string ((rd_T23 t687 x11_2).f2)) ∧ w'.cell? ⟨(ad690.add ((x11_2).toNat * 4)).block, (ad690.add ((x11_2).toNat * 4)).off + 3, none⟩ = some (.bool ((rd_T23 t687 x11_2).f3)) ∧ w'.cell? (ad690.add ((x11_2).toNat * 4)) = some (.string ((rd_T23 t687 x11_2).f0)) ∧ w'.cell? ⟨(ad690.add ((x11_2).toNat * 4)).block, (ad690.add ((x11_2).toNat * 4)).off + 1, none⟩ = some (.string ((rd_T23 t687 x11_2).f1)) ∧ w'.cell? ⟨(ad690.add ((x11_2).toNat * 4)).block, (ad690.add ((x11_2).toNat * 4)).off + 2, none⟩ = some (.string ((rd_T23 t687 x11_2).f2)) ∧ w'.cell? ⟨(ad690.add ((x11_2).toNat * 4)).block, (ad690.add ((x11_2).toNat * 4)).off + 3, none⟩ = some (.bool ((rd_T23 t687 x11_2).f3))) (ds := []) #[false, false, false, false, false, false, false, false, false, false, false, false, false, false, false, false, false, false, false, false, false, false, false] (by kernel_rfl) rfl rfl ⟨hx690_0, hx690_1, hx690_2, hx690_3, hx691_0, hx691_1, hx691_2, hx691_3⟩ (fun hHeld => ?_); refine with_tabW tenementlaw08_ItemParts.tab16 tenementlaw08_ItemParts.bits16 (fun HT_ HW_ => ?_)
          generalize wr.drew = w26 at HO_10 HO_685005 BK674 BK684 HB hx690_0 hx690_1 hx690_2 hx690_3 hx691_0 hx691_1 hx691_2 hx691_3 hHeld ⊢
          refine pure_ (i := 0) (N := some 42) (v := ?_) (a' := ?_) #[true, false, false, false, false, false, false, false, false, false, false, false, false, false, false, false, false, false, false, false, false, false, false] rfl rfl (any_of HT_.out (by kernel_rfl)) (fun _ _ _ h => h) (Or.inl ⟨by rfl, ?_⟩) ?_ ?_
          rotate_left
          · intro w'
            go_simp
            with_reducible rfl
          rotate_left
          · simp only [Act.put, List.setIfInBounds_toArray, List.set_cons_zero, List.set_cons_succ, i64_w, i32_w]
            rfl
          refine pure_ (i := 1) (N := some 43) (v := ?_) (a' := ?_) #[true, true, false, false, false, false, false, false, false, false, false, false, false, false, false, false, false, false, false, false, false, false, false] rfl rfl (any_of HT_.out (by kernel_rfl)) (fun _ _ _ h => h) (Or.inl ⟨by rfl, ?_⟩) ?_ ?_
          rotate_left
          · intro w'
            go_simp
            with_reducible rfl
          rotate_left
          · simp only [Act.put, List.setIfInBounds_toArray, List.set_cons_zero, List.set_cons_succ, i64_w, i32_w]
            rfl
          refine pure_ (i := 2) (N := some 44) (v := ?_) (a' := ?_) #[true, true, true, false, false, false, false, false, false, false, false, false, false, false, false, false, false, false, false, false, false, false, false] rfl rfl (any_of HT_.out (by kernel_rfl)) (fun _ _ _ h => h) (Or.inl ⟨by rfl, ?_⟩) ?_ ?_
          rotate_left
          · intro w'
            go_simp
            with_reducible rfl
          rotate_left
          · simp only [Act.put, List.setIfInBounds_toArray, List.set_cons_zero, List.set_cons_succ, i64_w, i32_w]
            rfl
          refine pure_ (i := 3) (N := some 45) (v := ?_) (a' := ?_) #[true, true, true, true, false, false, false, false, false, false, false, false, false, false, false, false, false, false, false, false, false, false, false] rfl rfl (any_of HT_.out (by kernel_rfl)) (fun _ _ _ h => h) (Or.inl ⟨by rfl, ?_⟩) ?_ ?_
          rotate_left
          · intro w'
            go_simp
            with_reducible rfl
          rotate_left
          · simp only [Act.put, List.setIfInBounds_toArray, List.set_cons_zero, List.set_cons_succ, i64_w, i32_w]
            rfl
          refine pure_ (i := 5) (N := some 47) (v := ?_) (a' := ?_) #[true, true, true, true, false, true, false, false, false, false, false, false, false, false, false, false, false, false, false, false, false, false, false] rfl rfl (any_of HT_.out (by kernel_rfl)) (fun _ _ _ h => h) (Or.inl ⟨by rfl, ?_⟩) ?_ ?_
          rotate_left
          · intro w'
            go_simp
            with_reducible rfl
          rotate_left
          · simp only [Act.put, List.setIfInBounds_toArray, List.set_cons_zero, List.set_cons_succ, i64_w, i32_w]
            rfl
          refine pure_ (i := 6) (N := some 48) (v := ?_) (a' := ?_) #[true, true, true, true, false, true, true, false, false, false, false, false, false, false, false, false, false, false, false, false, false, false, false] rfl rfl (any_of HT_.out (by kernel_rfl)) (fun _ _ _ h => h) (Or.inl ⟨by rfl, ?_⟩) ?_ ?_
          rotate_left
          · intro w'
            go_simp
            with_reducible rfl
          rotate_left
          · simp only [Act.put, List.setIfInBounds_toArray, List.set_cons_zero, List.set_cons_succ, i64_w, i32_w]
            rfl
          refine pure_ (i := 7) (N := some 49) (v := ?_) (a' := ?_) #[true, true, true, true, false, true, true, true, false, false, false, false, false, false, false, false, false, false, false, false, false, false, false] rfl rfl (any_of HT_.out (by kernel_rfl)) (fun _ _ _ h => h) (Or.inl ⟨by rfl, ?_⟩) ?_ ?_
          rotate_left
          · intro w'
            go_simp
            with_reducible rfl
          rotate_left
          · simp only [Act.put, List.setIfInBounds_toArray, List.set_cons_zero, List.set_cons_succ, i64_w, i32_w]
            rfl
          refine pure_ (i := 8) (N := some 50) (v := ?_) (a' := ?_) #[true, true, true, true, false, true, true, true, true, false, false, false, false, false, false, false, false, false, false, false, false, false, false] rfl rfl (any_of HT_.out (by kernel_rfl)) (fun _ _ _ h => h) (Or.inl ⟨by rfl, ?_⟩) ?_ ?_
          rotate_left
          · intro w'
            go_simp
            with_reducible rfl
          rotate_left
          · simp only [Act.put, List.setIfInBounds_toArray, List.set_cons_zero, List.set_cons_succ, i64_w, i32_w]
            rfl
          refine pure_ (i := 10) (N := some 52) (v := ?_) (a' := ?_) #[true, true, true, true, false, true, true, true, true, false, true, false, false, false, false, false, false, false, false, false, false, false, false] rfl rfl (any_of HT_.out (by kernel_rfl)) (fun _ _ _ h => h) (Or.inl ⟨by rfl, ?_⟩) ?_ ?_
          rotate_left
          · intro w'
            go_simp
            with_reducible rfl
          rotate_left
          · simp only [Act.put, List.setIfInBounds_toArray, List.set_cons_zero, List.set_cons_succ, i64_w, i32_w]
            rfl
          refine pure_ (i := 12) (N := some 54) (v := ?_) (a' := ?_) #[true, true, true, true, false, true, true, true, true, false, true, false, true, false, false, false, false, false, false, false, false, false, false] rfl rfl (any_of HT_.out (by kernel_rfl)) (fun _ _ _ h => h) (Or.inl ⟨by rfl, ?_⟩) ?_ ?_
          rotate_left
          · intro w'
            go_simp
            with_reducible rfl
          rotate_left
          · simp only [Act.put, List.setIfInBounds_toArray, List.set_cons_zero, List.set_cons_succ, i64_w, i32_w]
            rfl
          refine take_ (i := 4) (N := some 46) (v := ?_) (a' := ?_) #[true, true, true, true, true, true, true, true, true, false, true, false, true, false, false, false, false, false, false, false, false, false, false] rfl rfl (take_ofW HT_.out HW_.out (by kernel_rfl)) (fun _ _ _ h => h) (Or.inl ⟨by rfl, ?_⟩) hHeld ?_ ?_
          rotate_left
          · rintro w' ⟨s0, s1, s2, s3, s4, s5, s6, s7⟩
            go_simp
            with_reducible rfl
          rotate_left
          · simp only [Act.put, List.setIfInBounds_toArray, List.set_cons_zero, List.set_cons_succ, i64_w, i32_w]
            rfl
          refine take_ (i := 9) (N := some 51) (v := ?_) (a' := ?_) #[true, true, true, true, true, true, true, true, true, true, true, false, true, false, false, false, false, false, false, false, false, false, false] rfl rfl (take_ofW HT_.out HW_.out (by kernel_rfl)) (fun _ _ _ h => h) (Or.inl ⟨by rfl, ?_⟩) hHeld ?_ ?_
          rotate_left
          · rintro w' ⟨s0, s1, s2, s3, s4, s5, s6, s7⟩
            go_simp
            with_reducible rfl
          rotate_left
          · simp only [Act.put, List.setIfInBounds_toArray, List.set_cons_zero, List.set_cons_succ, i64_w, i32_w]
            rfl
          refine one_ (i := 11) (N := some 53) #[true, true, true, true, true, true, true, true, true, true, true, true, true, false, false, false, false, false, false, false, false, false, false] rfl rfl (one_of HT_.out (by kernel_rfl)) (by decide) (fun K hK => ?_)
          refine goes_ Try.func28 (by kernel_rfl) rfl #[.string ((rd_T23 t687 x11_2).f0), .string ((rd_T23 t687 x11_2).f1), .int .i64 (wrap64 (1 + (wrap64 (Int.tmod a1 8))))] (by rfl) rfl rfl (by (try simp only [List.map_toArray, List.map_cons, List.map_nil]); first | done | rfl | (simp only [List.length_drop, List.length_take]; rfl)) ?_
          with_reducible refine (item_Shard.calls k2 ((rd_T23 t687 x11_2).f0) ((rd_T23 t687 x11_2).f1) (wrap64 (1 + (wrap64 (Int.tmod a1 8)))) t692 _ A22.out).mono ?_
          rintro e w27 ⟨rfl, hb⟩
          have HS0_ := (hb.cell (World.block_lt_of_cell? _ _ (hHeld.1))).trans (hHeld.1)
          have HS1_ := (hb.cell (World.block_lt_of_cell? _ _ (hHeld.2.1))).trans (hHeld.2.1)
          have HS2_ := (hb.cell (World.block_lt_of_cell? _ _ (hHeld.2.2.1))).trans (hHeld.2.2.1)
          have HS3_ := (hb.cell (World.block_lt_of_cell? _ _ (hHeld.2.2.2.1))).trans (hHeld.2.2.2.1)
          have HS4_ := (hb.cell (World.block_lt_of_cell? _ _ (hHeld.2.2.2.2.1))).trans (hHeld.2.2.2.2.1)
          have HS5_ := (hb.cell (World.block_lt_of_cell? _ _ (hHeld.2.2.2.2.2.1))).trans (hHeld.2.2.2.2.2.1)
          have HS6_ := (hb.cell (World.block_lt_of_cell? _ _ (hHeld.2.2.2.2.2.2.1))).trans (hHeld.2.2.2.2.2.2.1)
          have HS7_ := (hb.cell (World.block_lt_of_cell? _ _ (hHeld.2.2.2.2.2.2.2))).trans (hHeld.2.2.2.2.2.2.2)
          refine ⟨_, rfl, ?_⟩
          replace HO_10 := Aside0.mk (Kd.R_below (by (with_reducible repeat (first | apply Kd.R_alloc | apply Kd.R_drewN | apply Kd.R_drew)); exact HO_10.out) hb)
          replace HO_685005 := Aside0.mk (Kd.R_below (by (with_reducible repeat (first | apply Kd.R_alloc | apply Kd.R_drewN | apply Kd.R_drew)); exact HO_685005.out) hb)
          replace BK674 := Kb_ BK674 hb
          replace BK684 := Kb_ BK684 hb
          replace HB := Ks_ HB hb
          (try clear hb)
          (try clear hb2)
          (try clear hk)
          (try clear hi)
          refine hK.out _ _ ⟨HS0_, HS1_, HS2_, HS3_, HS4_, HS5_, HS6_, HS7_⟩ (fun hHeld => ?_)
          clear hK K
          refine norm_ (a' := ?_) ?_ ?_
          rotate_left
          · show Act.put _ (some 53) _ = _
            simp only [Act.put, List.setIfInBounds_toArray, List.set_cons_zero, List.set_cons_succ, i64_w, i32_w]
            rfl
          refine pure_ (i := 13) (N := some 55) (v := ?_) (a' := ?_) #[true, true, true, true, true, true, true, true, true, true, true, true, true, true, false, false, false, false, false, false, false, false, false] rfl rfl (any_of HT_.out (by kernel_rfl)) (fun _ _ _ h => h) (Or.inl ⟨by rfl, ?_⟩) ?_ ?_
          rotate_left
          · intro w'
            go_simp
            with_reducible rfl
          rotate_left
          · simp only [Act.put, List.setIfInBounds_toArray, List.set_cons_zero, List.set_cons_succ, i64_w, i32_w]
            rfl
          refine pure_ (i := 14) (N := some 56) (v := ?_) (a' := ?_) #[true, true, true, true, true, true, true, true, true, true, true, true, true, true, true, false, false, false, false, false, false, false, false] rfl rfl (any_of HT_.out (by kernel_rfl)) (fun _ _ _ h => h) (Or.inl ⟨by rfl, ?_⟩) ?_ ?_
          rotate_left
          · intro w'
            go_simp
            with_reducible rfl
          rotate_left
          · simp only [Act.put, List.setIfInBounds_toArray, List.set_cons_zero, List.set_cons_succ, i64_w, i32_w]
            rfl
          refine pure_ (i := 15) (N := some 57) (v := ?_) (a' := ?_) #[true, true, true, true, true, true, true, true, true, true, true, true, true, true, true, true, false, false, false, false, false, false, false] rfl rfl (any_of HT_.out (by kernel_rfl)) (fun _ _ _ h => h) (Or.inl ⟨by rfl, ?_⟩) ?_ ?_
          rotate_left
          · intro w'
            go_simp
            with_reducible rfl
          rotate_left
          · simp only [Act.put, List.setIfInBounds_toArray, List.set_cons_zero, List.set_cons_succ, i64_w, i32_w]
            rfl
          refine pure_ (i := 16) (N := some 58) (v := ?_) (a' := ?_) #[true, true, true, true, true, true, true, true, true, true, true, true, true, true, true, true, true, false, false, false, false, false, false] rfl rfl (any_of HT_.out (by kernel_rfl)) (fun _ _ _ h => h) (Or.inl ⟨by rfl, ?_⟩) ?_ ?_
          rotate_left
          · intro w'
            go_simp
            with_reducible rfl
          rotate_left
          · simp only [Act.put, List.setIfInBounds_toArray, List.set_cons_zero, List.set_cons_succ, i64_w, i32_w]
            rfl
          refine pure_ (i := 17) (N := some 59) (v := ?_) (a' := ?_) #[true, true, true, true, true, true, true, true, true, true, true, true, true, true, true, true, true, true, false, false, false, false, false] rfl rfl (any_of HT_.out (by kernel_rfl)) (fun _ _ _ h => h) (Or.inl ⟨by rfl, ?_⟩) ?_ ?_
          rotate_left
          · intro w'
            go_simp
            with_reducible rfl
          rotate_left
          · simp only [Act.put, List.setIfInBounds_toArray, List.set_cons_zero, List.set_cons_succ, i64_w, i32_w]
            rfl
          refine pure_ (i := 18) (N := some 60) (v := ?_) (a' := ?_) #[true, true, true, true, true, true, true, true, true, true, true, true, true, true, true, true, true, true, true, false, false, false, false] rfl rfl (any_of HT_.out (by kernel_rfl)) (fun _ _ _ h => h) (Or.inl ⟨by rfl, ?_⟩) ?_ ?_
          rotate_left
          · intro w'
            go_simp
            with_reducible rfl
          rotate_left
          · simp only [Act.put, List.setIfInBounds_toArray, List.set_cons_zero, List.set_cons_succ, i64_w, i32_w]
            rfl
          refine pure_ (i := 19) (N := some 61) (v := ?_) (a' := ?_) #[true, true, true, true, true, true, true, true, true, true, true, true, true, true, true, true, true, true, true, true, false, false, false] rfl rfl (any_of HT_.out (by kernel_rfl)) (fun _ _ _ h => h) (Or.inl ⟨by rfl, ?_⟩) ?_ ?_
          rotate_left
          · intro w'
            go_simp
            with_reducible rfl
          rotate_left
          · simp only [Act.put, List.setIfInBounds_toArray, List.set_cons_zero, List.set_cons_succ, i64_w, i32_w]
            rfl
          refine pure_ (i := 20) (N := some 62) (v := ?_) (a' := ?_) #[true, true, true, true, true, true, true, true, true, true, true, true, true, true, true, true, true, true, true, true, true, false, false] rfl rfl (any_of HT_.out (by kernel_rfl)) (fun _ _ _ h => h) (Or.inl ⟨by rfl, ?_⟩) ?_ ?_
          rotate_left
          · intro w'
            go_simp
            with_reducible rfl
          rotate_left
          · simp only [Act.put, List.setIfInBounds_toArray, List.set_cons_zero, List.set_cons_succ, i64_w, i32_w]
            rfl
          refine pure_ (i := 21) (N := some 63) (v := ?_) (a' := ?_) #[true, true, true, true, true, true, true, true, true, true, true, true, true, true, true, true, true, true, true, true, true, true, false] rfl rfl (any_of HT_.out (by kernel_rfl)) (fun _ _ _ h => h) (Or.inl ⟨by rfl, ?_⟩) ?_ ?_
          rotate_left
          · intro w'
            go_simp
            with_reducible rfl
          rotate_left
          · simp only [Act.put, List.setIfInBounds_toArray, List.set_cons_zero, List.set_cons_succ, i64_w, i32_w]
            rfl
          refine pure_ (i := 22) (N := some 64) (v := ?_) (a' := ?_) #[true, true, true, true, true, true, true, true, true, true, true, true, true, true, true, true, true, true, true, true, true, true, true] rfl rfl (any_of HT_.out (by kernel_rfl)) (fun _ _ _ h => h) (Or.inl ⟨by rfl, ?_⟩) ?_ ?_
          rotate_left
          · intro w'
            go_simp
            with_reducible rfl
          rotate_left
          · simp only [Act.put, List.setIfInBounds_toArray, List.set_cons_zero, List.set_cons_succ, i64_w, i32_w]
            rfl
          refine done_ (done_of HT_.out (by kernel_rfl)) ?_
          try go_wp2
          go_roundg k2
          case measure => have := HK1.out; have := HK2.out; omega
          case rel => exact ⟨(wrap64 (x11_2 + 1)), (by first | rfl | (simp; done) | (simp [*]; done)), H', ⟨by have := HK1.out; have := HK2.out; omega⟩, ⟨by (with_reducible repeat (first | apply Kd.R_alloc | apply Kd.R_drewN | apply Kd.R_drew)); exact HO_10.out⟩, ⟨by (with_reducible repeat (first | apply Kd.R_alloc | apply Kd.R_drewN | apply Kd.R_drew)); exact HO_685005.out⟩, ⟨by (with_reducible repeat (first | refine blk_drewN ?_ _ | refine blk_drew ?_ | refine blk_alloc ?_ _)); exact BK674.out⟩, ⟨by (with_reducible repeat (first | refine blk_drewN ?_ _ | refine blk_drew ?_ | refine blk_alloc ?_ _)); exact BK684.out⟩, ⟨by repeat (first | (with_reducible first | exact HB.out | apply below_alloc | apply pw_below_drewN | apply below_drew1 | refine below_set ?_ GE674.out | refine below_set ?_ GE684.out) | exact HB.out)⟩⟩

end Go.Proofs.Ytoogchgoiciggaa.Q

-- Written by this session's own driver (wip/hybrid.py) of the kit's printer; contracts marked FOREIGN are by hand.
set_option linter.unusedVariables false
namespace Go.Proofs.Ytoogchgoiciggaa.Q
open Go.RowKit Go.Proofs.Ytoogchgoiciggaa.Q Go.Proofs.YtoogchgoiciggaaW.PrintWords Go.Proofs.YtoogchgoiciggaaW.PrintLast Go.Proofs.YtoogchgoiciggaaW.PrintMore
def tenementlaw08_ItemParts.Pure : Prop := ∀ (x0 : S35) (x1 : Int), (wf35 x0) → ((Lit.int .u8 x1).wf = true) → ∃ k, tenementlaw08_ItemParts.f k (x0.f0.f0.f0.f0) (x0.f0.f0.f0.f1) (x0.f0.f0.f0.f2) (x0.f0.f0.f0.f3) (x0.f0.f0.f1) (x0.f0.f1) (x0.f1) (x0.f2) x1 = some true
end Go.Proofs.Ytoogchgoiciggaa.Q

/- Writes and transactions as the laws make them; what Shard and Of answer. -/
set_option linter.unusedVariables false
set_option linter.unusedSimpArgs false
namespace Go.Proofs.Ytoogchgoiciggaa.Pure
open Go.RowKit Go.Proofs.Ytoogchgoiciggaa.Q Go.Proofs.YtoogchgoiciggaaW.PrintWords Go.Proofs.YtoogchgoiciggaaW.PrintLast Go.Proofs.YtoogchgoiciggaaW.PrintMore Go.Proofs.Ytoogchgoiciggaa.Plain

abbrev Wr := S23
abbrev Pt := S25
/-- A write whose texts are not too long. -/
def fits (x : Wr) : Prop := x.f0.size ≤ 140737488351232 ∧ x.f1.size ≤ 140737488351232 ∧ x.f2.size ≤ 140737488351232
theorem str_size (l : List Int) : (strOfNums l).size = l.length := by
  unfold strOfNums
  simp [ByteArray.size]
/-- What a part of a deal is. -/
def wrt (p : Pt) (own : Bool) : Wr :=
  if own = true then (if 224 ≤ p.f2 then ⟨strOfNums [98, IntKind.u8.wrap (48 + Int.tmod p.f2 2)], strOfNums [IntKind.u8.wrap (97 + Int.tmod (IntKind.u8.wrap (Int.tdiv p.f2 2)) 4)], ⟨#[]⟩, true⟩
    else ⟨strOfNums [98, IntKind.u8.wrap (48 + Int.tmod p.f2 2)], strOfNums [IntKind.u8.wrap (97 + Int.tmod (IntKind.u8.wrap (Int.tdiv p.f2 2)) 4)], p.f0.f2.extract 0 (min p.f0.f2.size 8), false⟩)
  else p.f0
theorem wrt_f (p : Pt) (own : Bool) (h : fits p.f0) : tenementlaw08_Put_write.f p.f0.f0 p.f0.f1 p.f0.f2 p.f0.f3 own p.f2 = some ((wrt p own).f0, (wrt p own).f1, (wrt p own).f2, (wrt p own).f3) := by
  unfold tenementlaw08_Put_write.f wrt
  cases own with
  | true =>
    rw [if_pos rfl, if_pos rfl, if_pos (by have := h.2.2; omega)]
    by_cases c : 224 ≤ p.f2
    · rw [if_pos c, if_pos c]
    · rw [if_neg c, if_neg c]
  | false => rw [if_neg (by simp), if_neg (by simp)]
theorem wrt_fits (p : Pt) (own : Bool) (h : fits p.f0) : fits (wrt p own) := by
  unfold wrt
  cases own with
  | true =>
    rw [if_pos rfl]
    have z : (⟨#[]⟩ : ByteArray).size = 0 := rfl
    by_cases c : 224 ≤ p.f2
    · rw [if_pos c]
      refine ⟨?_, ?_, ?_⟩
      · show (strOfNums _).size ≤ _; rw [str_size]; simp
      · show (strOfNums _).size ≤ _; rw [str_size]; simp
      · show (⟨#[]⟩ : ByteArray).size ≤ _; omega
    · rw [if_neg c]
      refine ⟨?_, ?_, ?_⟩
      · show (strOfNums _).size ≤ _; rw [str_size]; simp
      · show (strOfNums _).size ≤ _; rw [str_size]; simp
      · show (ByteArray.extract _ _ _).size ≤ _; rw [ByteArray.size_extract]; omega
  | false => rw [if_neg (by simp)]; exact h
/-- Do two writes stand at one key? -/
def same (w y : Wr) : Bool := decide (y.f0 = w.f0) && decide (y.f1 = w.f1)
def wrs (most : Nat) (whole : Bool) : List Pt → List Wr → List Wr
  | [], out => out
  | p :: ps, out => if out.length < most then (if (whole && out.any (same (wrt p (whole || p.f1)))) = true then wrs most whole ps out else wrs most whole ps (out ++ [wrt p (whole || p.f1)])) else out
theorem wrs_len (most : Nat) (whole : Bool) : ∀ l out, out.length ≤ most → (wrs most whole l out).length ≤ most
  | [], out, h => h
  | p :: ps, out, h => by
    unfold wrs
    by_cases c : out.length < most
    · rw [if_pos c]
      split
      · exact wrs_len most whole ps out h
      · exact wrs_len most whole ps _ (by simp; omega)
    · rw [if_neg c]; exact h
theorem wrs_all (most : Nat) (whole : Bool) (Q : Wr → Prop) : ∀ l out, (∀ p ∈ l, Q (wrt p (whole || p.f1))) → (∀ x ∈ out, Q x) → ∀ x ∈ wrs most whole l out, Q x
  | [], out, _, h => h
  | p :: ps, out, hl, h => by
    unfold wrs
    have hl' : ∀ q ∈ ps, Q (wrt q (whole || q.f1)) := fun q hq => hl q (by simp [hq])
    split
    · split
      · exact wrs_all most whole Q ps out hl' h
      · refine wrs_all most whole Q ps _ hl' (fun x hx => ?_)
        rcases List.mem_append.1 hx with hx | hx
        · exact h x hx
        · rw [List.mem_singleton.1 hx]; exact hl p (by simp)
    · exact h
theorem idx (i : Nat) (h : i ≤ 4611686018427387904) : wrap64 ((i : Int) + 1) = ((i + 1 : Nat) : Int) := by
  rw [wrap64_id (by omega) (by omega)]
  omega
theorem rdW (l : List Wr) (j : Nat) (h : j < l.length) : rd_T23 l (j : Int) = l[j] := by
  unfold rd_T23
  rw [Int.toNat_natCast, List.getD_eq_getElem?_getD, List.getElem?_eq_getElem h]
  rfl
theorem rdP (l : List Pt) (j : Nat) (h : j < l.length) : rd_T25 l (j : Int) = l[j] := by
  unfold rd_T25
  rw [Int.toNat_natCast, List.getD_eq_getElem?_getD, List.getElem?_eq_getElem h]
  rfl
theorem wr_l1 (l : List Pt) (most : Int) (whole : Bool) (out : List Wr) (i : Int) (w : Wr) (h7 : out.length ≤ 1000) (K : Nat) : ∀ d j fl, j + d = out.length →
    tenementlaw08_writes.l1 (K + d + 1) l most whole out i fl (j : Int) w.f0 w.f1 w.f2 w.f3 =
      if (whole && (fl || (out.drop j).any (same w))) = true then tenementlaw08_writes.l0 K l most whole out (wrap64 (i + 1)) else tenementlaw08_writes.l0 K l most whole (out ++ [w]) (wrap64 (i + 1)) := by
  intro d
  induction d with
  | zero =>
    intro j fl hj
    have e : out.drop j = [] := List.drop_eq_nil_of_le (by omega)
    rw [Nat.add_zero, tenementlaw08_writes.l1, if_neg (by omega), e, List.any_nil, Bool.or_false]
    cases whole with
    | true =>
      rw [if_pos rfl]
      cases fl with
      | true => rw [if_pos rfl, if_pos (by rfl)]
      | false => rw [if_neg (by simp), if_pos (by omega), if_neg (by simp)]
    | false => rw [if_neg (by simp), if_pos (by omega), if_neg (by simp)]
  | succ d ih =>
    intro j fl hj
    have hlt : j < out.length := by omega
    have e : out.drop j = out[j] :: out.drop (j + 1) := List.drop_eq_getElem_cons hlt
    rw [show K + (d + 1) + 1 = (K + d + 1) + 1 by omega, tenementlaw08_writes.l1, if_pos (by omega), idx j (by omega), e, List.any_cons]
    cases fl with
    | true =>
      rw [if_pos rfl, ih (j + 1) true (by omega)]
      simp only [Bool.true_or]
    | false =>
      rw [if_neg (by simp), if_pos (by omega), rdW out j hlt, Bool.false_or]
      by_cases c : (out[j].f0).toList = w.f0.toList
      · rw [if_pos c, ih (j + 1) _ (by omega)]
        have c0 := toList_iff.1 c
        have hs : ((out[j].f1).toList == w.f1.toList) = same w out[j] := by
          unfold same
          rw [decide_eq_true c0, Bool.true_and]
          by_cases c1 : out[j].f1 = w.f1
          · rw [decide_eq_true c1, c1]; simp
          · rw [decide_eq_false c1]
            exact beq_eq_false_iff_ne.2 (fun h => c1 (toList_iff.1 h))
        rw [hs]
      · rw [if_neg c, ih (j + 1) _ (by omega)]
        have hs : same w out[j] = false := by
          unfold same
          rw [decide_eq_false (fun h => c (by rw [h])), Bool.false_and]
        rw [hs, Bool.false_or]
theorem wr_l0 (l : List Pt) (most : Nat) (hm : most ≤ 100) (whole : Bool) (hl : ∀ p ∈ l, fits p.f0) (hz : l.length ≤ 4611686018427387904) : ∀ d i (out : List Wr) K, i + d = l.length → out.length ≤ most → (d + 1) * (most + 5) ≤ K →
    tenementlaw08_writes.l0 K l (most : Int) whole out (i : Int) = some (wrs most whole (l.drop i) out) := by
  intro d
  induction d with
  | zero =>
    intro i out K hi ho hK
    obtain ⟨K, rfl⟩ : ∃ m, K = m + 2 := ⟨K - 2, by omega⟩
    have e : l.drop i = [] := List.drop_eq_nil_of_le (by omega)
    rw [tenementlaw08_writes.l0, if_neg (by omega), tenementlaw08_writes.j1, if_neg (by simp), e]
    rfl
  | succ d ih =>
    intro i out K hi ho hK
    have hlt : i < l.length := by omega
    have e : l.drop i = l[i] :: l.drop (i + 1) := List.drop_eq_getElem_cons hlt
    have hK' : (d + 1) * (most + 5) + (most + 5) ≤ K := by
      rw [show (d + 1 + 1) * (most + 5) = (d + 1) * (most + 5) + (most + 5) by rw [Nat.add_mul, Nat.one_mul]] at hK
      exact hK
    have hf : fits l[i].f0 := hl _ (List.getElem_mem _)
    rw [e]
    unfold wrs
    by_cases c : out.length < most
    · rw [if_pos c]
      obtain ⟨m, hm'⟩ : ∃ m, K = (m + out.length + 1) + 3 ∧ (d + 1) * (most + 5) ≤ m := ⟨K - out.length - 4, by omega, by omega⟩
      rw [hm'.1, tenementlaw08_writes.l0, if_pos (by omega), decide_eq_true (by omega : (out.length : Int) < (most : Int)), tenementlaw08_writes.j1, if_pos rfl, if_pos (by omega), if_pos (by omega), rdP l i hlt]
      have key : ∀ own : Bool, own = (whole || l[i].f1) → tenementlaw08_writes.j2 (m + out.length + 1 + 1) l (most : Int) whole out (i : Int) l[i].f0.f0 l[i].f0.f1 l[i].f0.f2 l[i].f0.f3 own l[i].f2 =
          some (if (whole && out.any (same (wrt l[i] (whole || l[i].f1)))) = true then wrs most whole (l.drop (i + 1)) out else wrs most whole (l.drop (i + 1)) (out ++ [wrt l[i] (whole || l[i].f1)])) := by
        intro own ho'
        rw [tenementlaw08_writes.j2, wrt_f _ _ hf, Option.bind_some]
        show tenementlaw08_writes.l1 (m + out.length + 1) l (most : Int) whole out (i : Int) false 0 (wrt l[i] own).f0 (wrt l[i] own).f1 (wrt l[i] own).f2 (wrt l[i] own).f3 = _
        have h1 := wr_l1 l (most : Int) whole out (i : Int) (wrt l[i] own) (by omega) m out.length 0 false (by omega)
        rw [show ((0 : Nat) : Int) = 0 from rfl] at h1
        rw [h1, List.drop_zero, Bool.false_or, idx i (by omega), ho']
        split
        · rw [ih (i + 1) out m (by omega) ho hm'.2]
        · rw [ih (i + 1) _ m (by omega) (by simp; omega) hm'.2]
      cases whole with
      | true =>
        rw [if_pos rfl, key true rfl]
      | false =>
        rw [if_neg (by simp), key _ (by simp)]
    · rw [if_neg c]
      obtain ⟨m, rfl⟩ : ∃ m, K = m + 2 := ⟨K - 2, by omega⟩
      rw [tenementlaw08_writes.l0, if_pos (by omega), decide_eq_false (by omega : ¬ (out.length : Int) < (most : Int)), tenementlaw08_writes.j1, if_neg (by simp)]
theorem writes_f (l : List Pt) (most : Nat) (hm : most ≤ 100) (whole : Bool) (hl : ∀ p ∈ l, fits p.f0) (hz : l.length ≤ 4611686018427387904) {K : Nat} (hK : (l.length + 1) * (most + 5) ≤ K) :
    tenementlaw08_writes.f K l (most : Int) whole = some (wrs most whole l []) := by
  unfold tenementlaw08_writes.f
  have := wr_l0 l most hm whole hl hz l.length 0 [] K (by omega) (by simp) hK
  rw [show ((0 : Nat) : Int) = 0 from rfl, List.drop_zero] at this
  exact this
/-- Where a key is kept. -/
def shv (b q : ByteArray) (n : Int) : Int := if n < 1 then 1 else ((CrcN.sum (bl (vs b.size ++ b ++ (vs q.size ++ q))) : Nat) : Int) % n + 1
theorem shard_f {b q : ByteArray} (n : Int) (hn : n ≤ 9223372036854775807) (hb : b.size ≤ 140737488351232) (hq : q.size ≤ 140737488351232) {k : Nat} (hk : 11 ≤ k) : item_Shard.f k b q n = some (shv b q n) := by
  unfold item_Shard.f shv
  by_cases c : n < 1
  · rw [if_pos c, if_pos c]
  · have z1 := vary_len_ten (n := b.size) (by omega)
    have z2 := vary_len_ten (n := q.size) (by omega)
    have hz1 : (vs b.size ++ b).size ≤ 140737488351262 := by rw [ByteArray.size_append, vs_size]; omega
    have hz2 : (vs q.size ++ q).size ≤ 140737488351262 := by rw [ByteArray.size_append, vs_size]; omega
    rw [if_neg c, if_neg c, Text_f (by omega) hk, Option.bind_some, Text_f (by omega) hk, Option.bind_some, if_pos (by omega), Sum_f (by rw [ByteArray.size_append]; omega) (by omega), Option.bind_some, if_neg (by omega)]
    have hl := sum_bl_lt (vs b.size ++ b ++ (vs q.size ++ q))
    generalize CrcN.sum (bl (vs b.size ++ b ++ (vs q.size ++ q))) = S at hl ⊢
    rw [wrap64_id (x := (S : Int)) (by omega) (by omega), Int.tmod_eq_emod_of_nonneg (by omega)]
    have h1 := Int.emod_nonneg (S : Int) (show n ≠ 0 by omega)
    have h2 := Int.emod_lt_of_pos (S : Int) (show 0 < n by omega)
    have h3 : (S : Int) % n ≤ (S : Int) := by
      have := Int.emod_add_mul_ediv (S : Int) n
      have h4 : 0 ≤ n * ((S : Int) / n) := Int.mul_nonneg (by omega) (Int.ediv_nonneg (by omega) (by omega))
      omega
    rw [wrap64_id (by omega) (by omega)]
theorem shv_range (b q : ByteArray) {n : Int} (h : 1 ≤ n) : 1 ≤ shv b q n ∧ shv b q n ≤ n := by
  unfold shv
  rw [if_neg (by omega)]
  have h1 := Int.emod_nonneg ((CrcN.sum (bl (vs b.size ++ b ++ (vs q.size ++ q))) : Nat) : Int) (show n ≠ 0 by omega)
  have h2 := Int.emod_lt_of_pos ((CrcN.sum (bl (vs b.size ++ b ++ (vs q.size ++ q))) : Nat) : Int) (show 0 < n by omega)
  omega
theorem of_l (n sh : Int) (hn : n ≤ 9223372036854775807) {k : Nat} (hk : 11 ≤ k) : ∀ xs : List Wr, (∀ x ∈ xs, fits x) → item_Of.l k sh n xs = some (xs.filter fun x => decide (shv x.f0 x.f1 n = sh))
  | [], _ => rfl
  | x :: xs, h => by
    have hx := h x (by simp)
    unfold item_Of.l
    rw [shard_f n hn hx.1 hx.2.1 hk, Option.bind_some, of_l n sh hn hk xs (fun y hy => h y (by simp [hy])), Option.bind_some, List.filter_cons]
    by_cases c : shv x.f0 x.f1 n = sh
    · rw [if_pos c, if_pos (decide_eq_true c)]
    · rw [if_neg c, if_neg (by simpa using c)]
theorem of_f (a b c d e : Int) (xs : List Wr) (n sh : Int) (hn : n ≤ 9223372036854775807) (hx : ∀ x ∈ xs, fits x) (hz : xs.length < 2513169434916) {k : Nat} (hk : 11 ≤ k) :
    item_Of.f k a b c d e xs sh n = some (xs.filter fun x => decide (shv x.f0 x.f1 n = sh)) := by
  unfold item_Of.f
  rw [if_pos hz, of_l n sh hn hk xs hx]
end Go.Proofs.Ytoogchgoiciggaa.Pure

/- Each write is of one shard alone, and the shards' writes together are all of them. -/
set_option linter.unusedVariables false
set_option linter.unusedSimpArgs false
namespace Go.Proofs.Ytoogchgoiciggaa.Pure
open Go.RowKit Go.Proofs.Ytoogchgoiciggaa.Q Go.Proofs.YtoogchgoiciggaaW.PrintWords Go.Proofs.YtoogchgoiciggaaW.PrintLast Go.Proofs.YtoogchgoiciggaaW.PrintMore Go.Proofs.Ytoogchgoiciggaa.Plain

theorem examples_60 : tenementlaw08_examples.f 60 = some true := by decide +kernel
theorem examples_f {k : Nat} (hk : 60 ≤ k) : tenementlaw08_examples.f k = some true := at_rounds tenementlaw08_examples.mono hk examples_60
theorem parts_l1 (t5 : Bool) (N c : Int) (j : Nat) (ts xs : List Wr) (a b d e g : Int) (hN : N ≤ 9223372036854775807) (hts : ∀ x ∈ ts, fits x ∧ shv x.f0 x.f1 N = (j : Int)) (hj : ∀ x ∈ ts, 1 ≤ (j : Int) ∧ (j : Int) ≤ N) (hz : ts.length ≤ 1000) (K : Nat) (hK : 11 ≤ K) :
    ∀ m i, i + m = ts.length → tenementlaw08_ItemParts.l1 (K + m + 1) t5 N c (j : Int) ts (i : Int) a b d e g xs = tenementlaw08_ItemParts.l0 K t5 N c (wrap64 ((j : Int) + 1)) a b d e g xs := by
  intro m
  induction m with
  | zero =>
    intro i hi
    rw [Nat.add_zero, tenementlaw08_ItemParts.l1, if_neg (by omega)]
  | succ m ih =>
    intro i hi
    have hlt : i < ts.length := by omega
    have hm : ts[i] ∈ ts := List.getElem_mem _
    have h1 := hts _ hm
    have h2 := hj _ hm
    rw [show K + (m + 1) + 1 = (K + m + 1) + 1 by omega, tenementlaw08_ItemParts.l1, if_pos (by omega), if_pos (by omega), rdW ts i hlt, shard_f N hN h1.1.1 h1.1.2.1 (by omega), Option.bind_some, if_pos h1.2, if_neg (by omega), if_neg (by omega), idx i (by omega), ih (i + 1) (by omega)]
theorem parts_l0 (N : Int) (h1 : 1 ≤ N) (h8 : N ≤ 8) (xs : List Wr) (hx : ∀ x ∈ xs, fits x) (hz : xs.length ≤ 100) (a b d e g : Int) : ∀ (m j K : Nat), (j : Int) + m = N + 2 → (m + 1) * 200 ≤ K →
    tenementlaw08_ItemParts.l0 K true N ((xs.countP fun x => decide (shv x.f0 x.f1 N < (j : Int)) : Nat) : Int) (j : Int) a b d e g xs = some true := by
  intro m
  induction m with
  | zero =>
    intro j K hj hK
    obtain ⟨K, rfl⟩ : ∃ q, K = q + 1 := ⟨K - 1, by omega⟩
    have hall : xs.countP (fun x => decide (shv x.f0 x.f1 N < (j : Int))) = xs.length := by
      rw [List.countP_eq_length]
      intro x _
      have := shv_range x.f0 x.f1 h1
      exact decide_eq_true (by omega)
    have s1 : item_Shard.f K (⟨#[98]⟩ : ByteArray) (⟨#[107]⟩ : ByteArray) 0 = some 1 := by unfold item_Shard.f; rw [if_pos (by omega)]
    have s2 : item_Shard.f K (⟨#[98]⟩ : ByteArray) (⟨#[107]⟩ : ByteArray) (-5) = some 1 := by unfold item_Shard.f; rw [if_pos (by omega)]
    rw [tenementlaw08_ItemParts.l0, wrap64_id (x := N + 1) (by omega) (by omega), if_neg (by omega), if_pos rfl, hall, if_pos rfl, s1, Option.bind_some, if_pos rfl, s2, Option.bind_some, if_pos rfl]
  | succ m ih =>
    intro j K hj hK
    have hf : ∀ x ∈ xs.filter (fun x => decide (shv x.f0 x.f1 N = (j : Int))), fits x ∧ shv x.f0 x.f1 N = (j : Int) := fun x hxm => by
      have := List.mem_filter.1 hxm
      exact ⟨hx x this.1, by simpa using this.2⟩
    have hr : ∀ x ∈ xs.filter (fun x => decide (shv x.f0 x.f1 N = (j : Int))), 1 ≤ (j : Int) ∧ (j : Int) ≤ N := fun x hxm => by
      have h2 := (hf x hxm).2
      have := shv_range x.f0 x.f1 h1
      omega
    have hlen : (xs.filter (fun x => decide (shv x.f0 x.f1 N = (j : Int)))).length ≤ xs.length := List.length_filter_le _ _
    have hc : xs.countP (fun x => decide (shv x.f0 x.f1 N < (j : Int))) ≤ xs.length := List.countP_le_length
    have hsum : xs.countP (fun x => decide (shv x.f0 x.f1 N < ((j + 1 : Nat) : Int))) = xs.countP (fun x => decide (shv x.f0 x.f1 N < (j : Int))) + (xs.filter (fun x => decide (shv x.f0 x.f1 N = (j : Int)))).length := by
      clear ih hf hr hlen hc hz hx
      induction xs with
      | nil => rfl
      | cons x xs ihx =>
        simp only [List.countP_cons, List.filter_cons, ihx]
        by_cases c1 : shv x.f0 x.f1 N < (j : Int)
        · rw [decide_eq_true c1, decide_eq_false (show ¬ shv x.f0 x.f1 N = (j : Int) by omega), decide_eq_true (show shv x.f0 x.f1 N < ((j + 1 : Nat) : Int) by omega)]
          simp
          omega
        · by_cases c2 : shv x.f0 x.f1 N = (j : Int)
          · rw [decide_eq_false c1, decide_eq_true c2, decide_eq_true (show shv x.f0 x.f1 N < ((j + 1 : Nat) : Int) by omega)]
            simp
            omega
          · rw [decide_eq_false c1, decide_eq_false c2, decide_eq_false (show ¬ shv x.f0 x.f1 N < ((j + 1 : Nat) : Int) by omega)]
            simp
    generalize hT : xs.filter (fun x => decide (shv x.f0 x.f1 N = (j : Int))) = ts at hf hr hlen hsum
    have hts : ts.length ≤ 100 := by omega
    obtain ⟨q, hq, hq2⟩ : ∃ q, K = (q + ts.length + 1) + 1 ∧ (m + 1) * 200 ≤ q := by
      clear hsum hf hr ih hT hc hlen hx hj h1 h8
      have hK2 : (m + 1) * 200 + 200 ≤ K := Nat.le_trans (Nat.le_of_eq (by rw [Nat.add_mul (m + 1) 1 200, Nat.one_mul])) hK
      clear hK
      generalize (m + 1) * 200 = M at *
      exact ⟨K - ts.length - 2, by omega, by omega⟩
    have hz3 : xs.length < 2513169434916 := by omega
    have hcw : wrap64 (((xs.countP fun x => decide (shv x.f0 x.f1 N < (j : Int)) : Nat) : Int) + (ts.length : Int)) = (((xs.countP fun x => decide (shv x.f0 x.f1 N < (j : Int)) : Nat) : Int) + (ts.length : Int)) := wrap64_id (by omega) (by omega)
    have ho := of_f a b d e g xs N (j : Int) (by omega) hx hz3 (k := q + ts.length + 1) (by omega)
    have hw := wrap64_id (x := N + 1) (by omega) (by omega)
    have hle : (j : Int) ≤ N + 1 := by clear hsum hcw hw; omega
    clear hx
    rw [hq, tenementlaw08_ItemParts.l0, hw, if_pos hle, ho, Option.bind_some, hT, hcw]
    have h := parts_l1 true N (((xs.countP fun x => decide (shv x.f0 x.f1 N < (j : Int)) : Nat) : Int) + (ts.length : Int)) j ts xs a b d e g (by omega) hf hr (by omega) q (by omega) ts.length 0 (by omega)
    rw [show ((0 : Nat) : Int) = 0 from rfl] at h
    rw [h, idx j (by omega)]
    have h2 := ih (j + 1) q (by omega) hq2
    rw [hsum] at h2
    rw [← h2]
    congr 1
theorem ItemParts : tenementlaw08_ItemParts.Pure := by
  intro x n hx hn
  have hn := u8_of hn
  obtain ⟨⟨⟨⟨v0, v1, v2, v3⟩, d⟩, o⟩, l, own⟩ := x
  have hw := hx.1.1
  have hl : ∀ p ∈ l, fits p.f0 := fun p hp => ⟨(hx.2.1.1 p hp).1.1, (hx.2.1.1 p hp).1.2.1, (hx.2.1.1 p hp).1.2.2.1⟩
  have hlen : l.length * 64 ≤ 140737488351232 := hx.2.1.2
  obtain ⟨n0, n1, n2, n3, dc, em, _, _, _, _⟩ := mark_own (v3 := v3) (d := d) hw.1.1 hw.1.2.1 hw.1.2.2.1 (k := (l.length + 1) * 13 + 5000) (by omega)
  have ew := writes_f l 8 (by omega) true hl (by omega) (K := (l.length + 1) * 13 + 5000) (by omega)
  have hln := wrs_len 8 true l [] (by simp)
  have hfit := wrs_all 8 true fits l [] (fun p hp => wrt_fits p _ (hl p hp)) (by simp)
  refine ⟨(l.length + 1) * 13 + 5000, ?_⟩
  show tenementlaw08_ItemParts.f ((l.length + 1) * 13 + 5000) v0 v1 v2 v3 d o l own n = some true
  generalize hK : (l.length + 1) * 13 + 5000 = K at em ew ⊢
  have hN : wrap64 (1 + (wrap64 (Int.tmod n 8))) = 1 + n % 8 := by
    rw [Int.tmod_eq_emod_of_nonneg hn.1, wrap64_id (x := n % 8) (by omega) (by omega), wrap64_id (by omega) (by omega)]
  unfold tenementlaw08_ItemParts.f
  rw [examples_f (by omega), Option.bind_some, if_pos rfl, hN]
  have key : ∀ (xs : List Wr) (a b c e g : Int), (∀ x ∈ xs, fits x) → xs.length ≤ 100 → tenementlaw08_ItemParts.l0 K true (1 + n % 8) 0 0 a b c e g xs = some true := by
    intro xs a b c e g h1 h2
    have h3 := parts_l0 (1 + n % 8) (by omega) (by omega) xs h1 h2 a b c e g (3 + n % 8).toNat 0 K (by omega) (by omega)
    have h4 : xs.countP (fun x => decide (shv x.f0 x.f1 (1 + n % 8) < ((0 : Nat) : Int))) = 0 := by
      rw [List.countP_eq_zero]
      intro x _
      have := shv_range x.f0 x.f1 (show 1 ≤ 1 + n % 8 by omega)
      simp only [decide_eq_true_eq]
      omega
    rw [h4] at h3
    exact h3
  have hd : ∃ (a b c e g : Int) (xs : List Wr), tenementlaw08_Deal_deal.f K v0 v1 v2 v3 d o l true = some (a, b, c, e, g, xs) ∧ (∀ x ∈ xs, fits x) ∧ xs.length ≤ 100 := by
    unfold tenementlaw08_Deal_deal.f
    rw [if_pos rfl, em, Option.bind_some]
    rw [show ((8 : Nat) : Int) = 8 from rfl] at ew
    rw [ew, Option.bind_some]
    by_cases c : ((wrs 8 true l []).length : Int) = 0
    · rw [if_pos c]
      refine ⟨_, _, _, _, _, _, rfl, ?_, by simp⟩
      intro x hx1
      rw [List.mem_singleton.1 hx1]
      have z2 : (⟨#[98, 48]⟩ : ByteArray).size = 2 := rfl
      have z1 : (⟨#[97]⟩ : ByteArray).size = 1 := rfl
      have z3 : (⟨#[118]⟩ : ByteArray).size = 1 := rfl
      exact ⟨show (⟨#[98, 48]⟩ : ByteArray).size ≤ _ by omega, show (⟨#[97]⟩ : ByteArray).size ≤ _ by omega, show (⟨#[118]⟩ : ByteArray).size ≤ _ by omega⟩
    · rw [if_neg c]
      exact ⟨_, _, _, _, _, _, rfl, hfit, by omega⟩
  obtain ⟨a, b, c, e, g, xs, ed, h1, h2⟩ := hd
  rw [ed, Option.bind_some]
  exact key xs a b c e g h1 h2
end Go.Proofs.Ytoogchgoiciggaa.Pure
