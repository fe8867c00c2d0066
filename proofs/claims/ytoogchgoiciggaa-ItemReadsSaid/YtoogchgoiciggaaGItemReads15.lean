import Derived.Test.YtoogchgoiciggaaGItemReads2
import Derived.Test.YtoogchgoiciggaaGItemReads6
import Derived.Test.YtoogchgoiciggaaGItemReads7
import Derived.Test.YtoogchgoiciggaaGItemReads8
import Derived.Test.YtoogchgoiciggaaGItemReads9
namespace Go.Proofs.Ytoogchgoiciggaa.Q
open Go.RowKit Go.Proofs.YtoogchgoiciggaaW.PrintWords Go.Proofs.YtoogchgoiciggaaW.PrintLast Go.Proofs.YtoogchgoiciggaaW.PrintMore
attribute [local go_sem] max2_int min2_int max_two min_two max_three min_three max_four min_four   -- for this text's walks alone
set_option linter.unusedVariables false
set_option linter.unusedSimpArgs false
mutual
def tenementref08_Read.l0 : Nat → ByteArray → Int → Int → ByteArray → Bool → Int → Int → Int → Int → Int → List (S38) → Option (Int × Int × Int × Int × Int × (List (S38)) × Bool)
 | 0, _, _, _, _, _, _, _, _, _, _, _ => none
 | k + 1, x0, x6, x9, x140, x139, x141, x142, x143, x144, x145, x138 => if x9 < x6 then (if x9 < 9 then (tenementref08_Read.j1 k x0 x6 x9 (!x139) x140 x139 x141 x142 x143 x144 x145 x138) else (tenementref08_Read.j1 k x0 x6 x9 false x140 x139 x141 x142 x143 x144 x145 x138)) else (tenementref08_Read.j1 k x0 x6 x9 false x140 x139 x141 x142 x143 x144 x145 x138)
def tenementref08_Read.j1 : Nat → ByteArray → Int → Int → Bool → ByteArray → Bool → Int → Int → Int → Int → Int → List (S38) → Option (Int × Int × Int × Int × Int × (List (S38)) × Bool)
 | 0, _, _, _, _, _, _, _, _, _, _, _, _ => none
 | k + 1, x0, x6, x9, x38, x140, x139, x141, x142, x143, x144, x145, x138 => if x38 = true then ((tenementref02_Reader_Text.f k x140 x139 16).bind fun bt548 => ((tenementref02_Reader_Text.f k bt548.2.1 bt548.2.2 16).bind fun bt551 => ((tenementref02_Reader_Number.f k bt551.2.1 bt551.2.2 1).bind fun bt554 => (if bt554.1 = 1 then (if x138.length < 2513169434916 then (tenementref08_Read.l0 k x0 x6 (IntKind.u64.wrap (x9 + 1)) bt554.2.1 bt554.2.2 x141 x142 x143 x144 x145 (x138 ++ [(⟨bt548.1, bt551.1, (⟨#[]⟩ : ByteArray), (bt554.1 == 1)⟩ : S38)])) else (none)) else ((tenementref02_Reader_Text.f k bt554.2.1 bt554.2.2 32).bind fun bt560 => (if x138.length < 2513169434916 then (tenementref08_Read.l0 k x0 x6 (IntKind.u64.wrap (x9 + 1)) bt560.2.1 bt560.2.2 x141 x142 x143 x144 x145 (x138 ++ [(⟨bt548.1, bt551.1, bt560.1, (bt554.1 == 1)⟩ : S38)])) else (none))))))) else ((tenementref08_Bytes.f k x141 x142 x143 x144 x145 x138).bind fun bt545 => (if bt545.2 = true then (if bt545.1.toList = x0.toList then (some (x141, x142, x143, x144, x145, x138, true)) else (some (0, 0, 0, 0, 0, ([] : List (S38)), false))) else (some (0, 0, 0, 0, 0, ([] : List (S38)), false))))
end
def tenementref08_Read.f (k : Nat) (a0 : ByteArray) : Option (Int × Int × Int × Int × Int × (List (S38)) × Bool) := (tenementref07_Get.f k a0 false).bind fun bt531 => ((tenementref02_Reader_Number.f k bt531.2.2.2.2.2.1 bt531.2.2.2.2.2.2 1).bind fun bt540 => (tenementref08_Read.l0 k a0 bt540.1 0 bt540.2.1 bt540.2.2 bt531.1 bt531.2.1 bt531.2.2.1 bt531.2.2.2.1 bt531.2.2.2.2.1 ([] : List (S38))))
set_option maxHeartbeats 8000000 in
set_option maxRecDepth 100000 in
theorem tenementref08_Read.calls (k : Nat) (a0 : ByteArray) (r1 : Int) (r2 : Int) (r3 : Int) (r4 : Int) (r5 : Int) (r6 : List (S38)) (r7 : Bool) (w : World) (h : tenementref08_Read.f k a0 = some (r1, r2, r3, r4, r5, r6, r7)) :
  Calls Try.prog 32 #[.string a0] w fun e w' => ∃ v5_ : Value, e = .returned (.tuple #[.agg #[.int .u64 r1, .int .u64 r2, .int .u64 r3, .int .u64 r4, .int .i64 r5, v5_], .bool r7]) ∧ Kd.R k38 38 w' w.heap.size (fun _ => True) v5_ r6 ∧ Below w.heap.size w w' := by
 have hu52 := Try.underlying52
 have hu104 := Try.underlying104
 have hu50 := Try.underlying50
 have hu38 := Try.underlying38
 have HB := Aside0.mk (Below.refl w.heap.size w)
 have H : ((tenementref07_Get.f k a0 false).bind fun bt531 => ((tenementref02_Reader_Number.f k bt531.2.2.2.2.2.1 bt531.2.2.2.2.2.2 1).bind fun bt540 => (tenementref08_Read.l0 k a0 bt540.1 0 bt540.2.1 bt540.2.2 bt531.1 bt531.2.1 bt531.2.2.1 bt531.2.2.2.1 bt531.2.2.2.2.1 ([] : List (S38))))) = some (r1, r2, r3, r4, r5, r6, r7) := h
 clear h
 replace H := Option.bind_eq_some_iff.mp H
 obtain ⟨⟨t531, t532, t533, t534, t535, t536, t537⟩, A20, H⟩ := H
 replace H : ((tenementref02_Reader_Number.f k t536 t537 1).bind fun bt540 => (tenementref08_Read.l0 k a0 bt540.1 0 bt540.2.1 bt540.2.2 t531 t532 t533 t534 t535 ([] : List (S38)))) = some (r1, r2, r3, r4, r5, r6, r7) := H
 have A2 := Aside0.mk A20
 clear A20
 replace H := Option.bind_eq_some_iff.mp H
 obtain ⟨⟨t540, t541, t542⟩, A30, H⟩ := H
 replace H : (tenementref08_Read.l0 k a0 t540 0 t541 t542 t531 t532 t533 t534 t535 ([] : List (S38))) = some (r1, r2, r3, r4, r5, r6, r7) := H
 have A3 := Aside0.mk A30
 clear A30
 have H' := Aside0.mk H
 clear H
 go_enter Try.func32, Try.ntmps32
 go_wp2_with (first | ((with_reducible refine gate_dst (N := 2) rfl ?_); refine Ka_ 2 #[.int .u64 0, .int .u64 0, .int .u64 0, .int .u64 0, .int .i64 0, .slice none 0 0] 52 ?_; intro gb530 hg w4 hbox hb; have BK530 := Aside0.mk (hbox); have GW530 := Kw_ HB hg; have GE530 := GW530; replace HB := Ks_ HB hb; clear hb hbox hg) | ((with_reducible refine gate_callee (f := 56) rfl ?_); refine Kg_ (some 17) rfl rfl Try.func56 (by kernel_rfl) rfl #[.agg #[.string a0, .bool false]] rfl ?_; (with_reducible refine (tenementref07_Get.calls k a0 false t531 t532 t533 t534 t535 t536 t537 _ A2.out).mono ?_); rintro e w5 ⟨rfl, hb⟩; refine ⟨_, rfl, ?_⟩; replace BK530 := Kb_ BK530 hb; replace HB := Ks_ HB hb; (try clear hb); (try clear hb2); (try clear hk); (try clear hi)) | ((with_reducible refine gate_dst (N := 4) rfl ?_); refine Ka_ 4 #[.int .u64 0, .int .u64 0, .int .u64 0, .int .u64 0, .int .i64 0] 50 ?_; intro gb538 hg w6 hbox hb; have BK538 := Aside0.mk (hbox); have GW538 := Kw_ HB hg; have GE538 := GW538; have NB530_538 := Kl_ BK530 hg; have NB538_530 := Kr_ BK530 hg; replace BK530 := Kb_ BK530 hb; replace HB := Ks_ HB hb; clear hb hbox hg) | ((with_reducible refine gate_dst (N := 5) rfl ?_); refine Ka_ 5 #[.string (⟨#[]⟩ : ByteArray), .bool false] 104 ?_; intro gb539 hg w7 hbox hb; have BK539 := Aside0.mk (hbox); have GW539 := Kw_ HB hg; have GE539 := GW539; have NB530_539 := Kl_ BK530 hg; have NB539_530 := Kr_ BK530 hg; have NB538_539 := Kl_ BK538 hg; have NB539_538 := Kr_ BK538 hg; replace BK530 := Kb_ BK530 hb; replace BK538 := Kb_ BK538 hb; replace HB := Ks_ HB hb; clear hb hbox hg; have hnb8 := NB538_530.out; have hnc8 := NB530_538.out; have hnb9 := NB538_539.out; have hnc9 := NB539_538.out; obtain ⟨hcz10_0, hcz10_1, hcz10_2, hcz10_3, hcz10_4, hfz10_0, hfz10_1, hfz10_2, hfz10_3, hfz10_4⟩ := Ke5_ BK538.out; have hnb11 := NB539_530.out; have hnc11 := NB530_539.out; obtain ⟨hcz12_0, hcz12_1, hfz12_0, hfz12_1⟩ := Ke2_ BK539.out) | ((with_reducible refine gate_callee (f := 57) rfl ?_); refine Kg_ (some 22) rfl rfl Try.func57 (by kernel_rfl) rfl #[.agg #[.string t536, .bool t537], .int .i64 1] rfl ?_; (with_reducible refine (tenementref02_Reader_Number.calls k t536 t537 1 t540 t541 t542 _ A3.out).mono ?_); rintro e w13 ⟨rfl, hb⟩; refine ⟨_, rfl, ?_⟩; replace BK530 := Aside0.mk (blk_below (g := gb530) (o := .cells #[.int .u64 0, .int .u64 0, .int .u64 0, .int .u64 0, .int .i64 0, .slice none 0 0] 52 (0, 0)) (K2b_ BK530 NB530_539 NB530_538) hb); replace BK538 := Aside0.mk (blk_below (g := gb538) (o := .cells #[.int .u64 t531, .int .u64 t532, .int .u64 t533, .int .u64 t534, .int .i64 t535] 50 (0, 0)) (by (repeat (first | (with_reducible first | refine blk_drewN ?_ _ | refine blk_drew ?_ | refine blk_alloc ?_ _) | refine blk_far ?_ NB538_539.out _)); refine blk_put (cs := #[.int .u64 t531, .int .u64 t532, .int .u64 t533, .int .u64 t534, .int .i64 0]) ?_ 4 _ rfl; refine Kv_ ?_; refine blk_put (cs := #[.int .u64 t531, .int .u64 t532, .int .u64 t533, .int .u64 0, .int .i64 0]) ?_ 3 _ rfl; refine Kv_ ?_; refine blk_put (cs := #[.int .u64 t531, .int .u64 t532, .int .u64 0, .int .u64 0, .int .i64 0]) ?_ 2 _ rfl; refine Kv_ ?_; refine blk_put (cs := #[.int .u64 t531, .int .u64 0, .int .u64 0, .int .u64 0, .int .i64 0]) ?_ 1 _ rfl; refine Kv_ ?_; refine blk_put (cs := #[.int .u64 0, .int .u64 0, .int .u64 0, .int .u64 0, .int .i64 0]) ?_ 0 _ rfl; exact Kq_ BK538) hb); replace BK539 := Aside0.mk (blk_below (g := gb539) (o := .cells #[.string t536, .bool t537] 104 (0, 0)) (by refine Kv_ ?_; refine blk_put (cs := #[.string t536, .bool false]) ?_ 1 _ rfl; refine Kv_ ?_; refine blk_put (cs := #[.string (⟨#[]⟩ : ByteArray), .bool false]) ?_ 0 _ rfl; exact K1b_ BK539 NB539_538) hb); replace HB := Aside0.mk (below_step (K3a_ HB GE530 GE538 GE539) hb); (try clear hb); (try clear hb2); (try clear hk); (try clear hi)) | ((with_reducible refine gate_dst (N := 7) rfl ?_); refine Ka_ 7 #[.string (⟨#[]⟩ : ByteArray), .bool false] 104 ?_; intro gb543 hg w14 hbox hb; have BK543 := Aside0.mk (hbox); have GW543 := Kw_ HB hg; have GE543 := GW543; have NB530_543 := Kl_ BK530 hg; have NB543_530 := Kr_ BK530 hg; have NB538_543 := Kl_ BK538 hg; have NB543_538 := Kr_ BK538 hg; have NB539_543 := Kl_ BK539 hg; have NB543_539 := Kr_ BK539 hg; replace BK530 := Kb_ BK530 hb; replace BK538 := Kb_ BK538 hb; replace BK539 := Kb_ BK539 hb; replace HB := Ks_ HB hb; clear hb hbox hg; have hnb15 := NB543_530.out; have hnc15 := NB530_543.out; have hnb16 := NB543_538.out; have hnc16 := NB538_543.out; have hnb17 := NB543_539.out; have hnc17 := NB539_543.out; obtain ⟨hcz18_0, hcz18_1, hfz18_0, hfz18_1⟩ := Ke2_ BK543.out; obtain ⟨hcz19_0, hcz19_1, hcz19_2, hcz19_3, hcz19_4, hfz19_0, hfz19_1, hfz19_2, hfz19_3, hfz19_4⟩ := Ke5_ BK538.out) | ((with_reducible refine gate_dst (N := 8) rfl ?_); refine Ka_ 8 #[.int .u64 0, .int .u64 0, .int .u64 0, .int .u64 0, .int .i64 0, .slice none 0 0] 52 ?_; intro gb544 hg w20 hbox hb; have BK544 := Aside0.mk (hbox); have GW544 := Kx_ HB GE543 hg; have GE544 := GW544; have NB530_544 := Aside0.mk ((by rw [hg]; exact Nat.ne_of_lt (blk_lt (g := gb530) (o := .cells #[.int .u64 0, .int .u64 0, .int .u64 0, .int .u64 0, .int .i64 0, .slice none 0 0] 52 (0, 0)) (K1b_ BK530 NB530_543)) : gb530 ≠ gb544)); have NB544_530 := Aside0.mk ((by rw [hg]; exact Nat.ne_of_gt (blk_lt (g := gb530) (o := .cells #[.int .u64 0, .int .u64 0, .int .u64 0, .int .u64 0, .int .i64 0, .slice none 0 0] 52 (0, 0)) (K1b_ BK530 NB530_543)) : gb544 ≠ gb530)); have NB538_544 := Aside0.mk ((by rw [hg]; exact Nat.ne_of_lt (blk_lt (g := gb538) (o := .cells #[.int .u64 t531, .int .u64 t532, .int .u64 t533, .int .u64 t534, .int .i64 t535] 50 (0, 0)) (K1b_ BK538 NB538_543)) : gb538 ≠ gb544)); have NB544_538 := Aside0.mk ((by rw [hg]; exact Nat.ne_of_gt (blk_lt (g := gb538) (o := .cells #[.int .u64 t531, .int .u64 t532, .int .u64 t533, .int .u64 t534, .int .i64 t535] 50 (0, 0)) (K1b_ BK538 NB538_543)) : gb544 ≠ gb538)); have NB539_544 := Aside0.mk ((by rw [hg]; exact Nat.ne_of_lt (blk_lt (g := gb539) (o := .cells #[.string t536, .bool t537] 104 (0, 0)) (K1b_ BK539 NB539_543)) : gb539 ≠ gb544)); have NB544_539 := Aside0.mk ((by rw [hg]; exact Nat.ne_of_gt (blk_lt (g := gb539) (o := .cells #[.string t536, .bool t537] 104 (0, 0)) (K1b_ BK539 NB539_543)) : gb544 ≠ gb539)); have NB543_544 := Aside0.mk ((by rw [hg]; exact Nat.ne_of_lt (blk_lt (g := gb543) (o := .cells #[.string t541, .bool t542] 104 (0, 0)) (by refine Kv_ ?_; refine blk_put (cs := #[.string t541, .bool false]) ?_ 1 _ rfl; refine Kv_ ?_; refine blk_put (cs := #[.string (⟨#[]⟩ : ByteArray), .bool false]) ?_ 0 _ rfl; exact Kq_ BK543)) : gb543 ≠ gb544)); have NB544_543 := Aside0.mk ((by rw [hg]; exact Nat.ne_of_gt (blk_lt (g := gb543) (o := .cells #[.string t541, .bool t542] 104 (0, 0)) (by refine Kv_ ?_; refine blk_put (cs := #[.string t541, .bool false]) ?_ 1 _ rfl; refine Kv_ ?_; refine blk_put (cs := #[.string (⟨#[]⟩ : ByteArray), .bool false]) ?_ 0 _ rfl; exact Kq_ BK543)) : gb544 ≠ gb543)); replace BK530 := Kf_ BK530 NB530_543 hb; replace BK538 := Kf_ BK538 NB538_543 hb; replace BK539 := Kf_ BK539 NB539_543 hb; replace BK543 := Aside0.mk (blk_below (g := gb543) (o := .cells #[.string t541, .bool t542] 104 (0, 0)) (by refine Kv_ ?_; refine blk_put (cs := #[.string t541, .bool false]) ?_ 1 _ rfl; refine Kv_ ?_; refine blk_put (cs := #[.string (⟨#[]⟩ : ByteArray), .bool false]) ?_ 0 _ rfl; exact Kq_ BK543) hb); replace HB := Kt_ HB GE543 hb; clear hb hbox hg; have hnb21 := NB544_530.out; have hnc21 := NB530_544.out; have hnb22 := NB544_538.out; have hnc22 := NB538_544.out; have hnb23 := NB544_539.out; have hnc23 := NB539_544.out; have hnb24 := NB544_543.out; have hnc24 := NB543_544.out; obtain ⟨hcz25_0, hcz25_1, hcz25_2, hcz25_3, hcz25_4, hcz25_5, hfz25_0, hfz25_1, hfz25_2, hfz25_3, hfz25_4, hfz25_5⟩ := Ke6_ BK544.out))
 go_loopg [9] k (fun kq v9 w' => ∃ (x9_1 : Int) (x140_1 : ByteArray) (x139_1 : Bool) (x138_1 : List (S38)) (u545005 : Value), v9 = .int .u64 x9_1 ∧ Aside0 (tenementref08_Read.l0 kq a0 t540 x9_1 x140_1 x139_1 t531 t532 t533 t534 t535 x138_1 = some (r1, r2, r3, r4, r5, r6, r7)) ∧ Aside0 (kq ≤ k) ∧ Aside0 (Kd.R k38 38 w' w.heap.size (fun _ => True) u545005 x138_1) ∧ Aside0 (w'.heap[gb530]? = some (.cells #[.int .u64 0, .int .u64 0, .int .u64 0, .int .u64 0, .int .i64 0, (.slice none 0 0)] 52 (0, 0))) ∧ Aside0 (w'.heap[gb538]? = some (.cells #[.int .u64 t531, .int .u64 t532, .int .u64 t533, .int .u64 t534, .int .i64 t535] 50 (0, 0))) ∧ Aside0 (w'.heap[gb539]? = some (.cells #[.string t536, .bool t537] 104 (0, 0))) ∧ Aside0 (w'.heap[gb543]? = some (.cells #[.string x140_1, .bool x139_1] 104 (0, 0))) ∧ Aside0 (w'.heap[gb544]? = some (.cells #[.int .u64 t531, .int .u64 t532, .int .u64 t533, .int .u64 t534, .int .i64 t535, u545005] 52 (0, 0))) ∧ Aside0 (Below w.heap.size w w'))
 case atStart => exact ⟨(0), (t541), (t542), (([] : List (S38))), (.slice none 0 0), (by first | rfl | (simp; done) | (simp [*]; done)), H', ⟨Nat.le_refl _⟩, ⟨by first | exact Kd.R_nil _ _ _ _ _ | exact Kd.N_nil _ _ _ _ _ | exact Kd.V_nil _ _ _ _ _ | exact Kd.Q_nil _ _ _ _ _ | exact Kd.S_nil _ _ _ _ _⟩, ⟨by exact K1b_ BK530 NB530_544⟩, ⟨by exact K1b_ BK538 NB538_544⟩, ⟨by exact K1b_ BK539 NB539_544⟩, ⟨by exact K1b_ BK543 NB543_544⟩, ⟨by refine Kv_ ?_; refine blk_put (cs := #[.int .u64 t531, .int .u64 t532, .int .u64 t533, .int .u64 t534, .int .i64 t535, .slice none 0 0]) ?_ 5 _ rfl; refine Kv_ ?_; refine blk_put (cs := #[.int .u64 t531, .int .u64 t532, .int .u64 t533, .int .u64 t534, .int .i64 0, .slice none 0 0]) ?_ 4 _ rfl; refine Kv_ ?_; refine blk_put (cs := #[.int .u64 t531, .int .u64 t532, .int .u64 t533, .int .u64 0, .int .i64 0, .slice none 0 0]) ?_ 3 _ rfl; refine Kv_ ?_; refine blk_put (cs := #[.int .u64 t531, .int .u64 t532, .int .u64 0, .int .u64 0, .int .i64 0, .slice none 0 0]) ?_ 2 _ rfl; refine Kv_ ?_; refine blk_put (cs := #[.int .u64 t531, .int .u64 0, .int .u64 0, .int .u64 0, .int .i64 0, .slice none 0 0]) ?_ 1 _ rfl; refine Kv_ ?_; refine blk_put (cs := #[.int .u64 0, .int .u64 0, .int .u64 0, .int .u64 0, .int .i64 0, .slice none 0 0]) ?_ 0 _ rfl; exact Kq_ BK544⟩, ⟨by repeat (first | (with_reducible first | exact HB.out | apply below_alloc | apply pw_below_drewN | apply below_drew1 | refine below_set ?_ GE530.out | refine below_set ?_ GE538.out | refine below_set ?_ GE539.out | refine below_set ?_ GE543.out | refine below_set ?_ GE544.out) | exact HB.out)⟩⟩
 case round =>
  clear H'
  try clear c1
  try clear c2
  try clear p2
  try clear c3
  try clear c5
  try clear c8
  try clear c9
  try clear c11
  try clear c15
  try clear c16
  try clear c17
  try clear c21
  try clear c22
  try clear c23
  try clear c24
  try clear hcz10_0
  try clear hcz10_1
  try clear hcz10_2
  try clear hcz10_3
  try clear hcz10_4
  try clear hcz12_0
  try clear hcz12_1
  try clear hcz18_0
  try clear hcz18_1
  try clear hcz19_0
  try clear hcz19_1
  try clear hcz19_2
  try clear hcz19_3
  try clear hcz19_4
  try clear hcz25_0
  try clear hcz25_1
  try clear hcz25_2
  try clear hcz25_3
  try clear hcz25_4
  try clear hcz25_5
  try clear hfz10_0
  try clear hfz10_1
  try clear hfz10_2
  try clear hfz10_3
  try clear hfz10_4
  try clear hfz12_0
  try clear hfz12_1
  try clear hfz18_0
  try clear hfz18_1
  try clear hfz19_0
  try clear hfz19_1
  try clear hfz19_2
  try clear hfz19_3
  try clear hfz19_4
  try clear hfz25_0
  try clear hfz25_1
  try clear hfz25_2
  try clear hfz25_3
  try clear hfz25_4
  try clear hfz25_5
  obtain ⟨x9_1, x140_1, x139_1, x138_1, u545005, rfl, HA, HK1, HO_138, BK530, BK538, BK539, BK543, BK544, HB⟩ := hrel
  cases gk with
  | zero => exact absurd HA.out (by simp [tenementref08_Read.l0])
  | succ k1 =>
   have H := HA.out
   clear HA
   simp only [tenementref08_Read.l0] at H
   have HC26 := Aside0.mk H
   clear H
   go_upto_region 5 with (fail)
   go_cut [38] (fun v38 wc => ∃ (kq : Nat) (x38_25 : Bool), v38 = .bool x38_25 ∧ Aside0 (tenementref08_Read.j1 kq a0 t540 x9_1 x38_25 x140_1 x139_1 t531 t532 t533 t534 t535 x138_1 = some (r1, r2, r3, r4, r5, r6, r7)) ∧ Aside0 (kq ≤ k1) ∧ Aside0 (Kd.R k38 38 wc w.heap.size (fun _ => True) u545005 x138_1) ∧ Aside0 (wc.heap[gb530]? = some (.cells #[.int .u64 0, .int .u64 0, .int .u64 0, .int .u64 0, .int .i64 0, (.slice none 0 0)] 52 (0, 0))) ∧ Aside0 (wc.heap[gb538]? = some (.cells #[.int .u64 t531, .int .u64 t532, .int .u64 t533, .int .u64 t534, .int .i64 t535] 50 (0, 0))) ∧ Aside0 (wc.heap[gb539]? = some (.cells #[.string t536, .bool t537] 104 (0, 0))) ∧ Aside0 (wc.heap[gb543]? = some (.cells #[.string x140_1, .bool x139_1] 104 (0, 0))) ∧ Aside0 (wc.heap[gb544]? = some (.cells #[.int .u64 t531, .int .u64 t532, .int .u64 t533, .int .u64 t534, .int .i64 t535, u545005] 52 (0, 0))) ∧ Aside0 (Below w.heap.size w wc))
   case first =>
    have H := HC26.out
    clear HC26
    by_cases c27 : x9_1 < t540
    rotate_left
    ·rw [if_neg c27] at H
     have c27b0 : decide (x9_1 < t540) = false := decide_eq_false c27
     clear c27
     (first | rw [c27b0] | (simp only [i64_w, i32_w]; rw [c27b0]) | skip)
     have H' := Aside0.mk H
     clear H
     go_wp2
     go_meet
     case rel => exact ⟨_, (false), (by first | rfl | (simp; done) | (simp [*]; done)), H', ⟨by have := HK1.out; first | omega | exact Nat.le_refl _⟩, ⟨by (with_reducible repeat (first | apply Kd.R_alloc | apply Kd.R_drewN | apply Kd.R_drew)); exact HO_138.out⟩, ⟨by exact Kq_ BK530⟩, ⟨by exact Kq_ BK538⟩, ⟨by exact Kq_ BK539⟩, ⟨by exact Kq_ BK543⟩, ⟨by exact Kq_ BK544⟩, ⟨by repeat (first | (with_reducible first | exact HB.out | apply below_alloc | apply pw_below_drewN | apply below_drew1 | refine below_set ?_ GE530.out | refine below_set ?_ GE538.out | refine below_set ?_ GE539.out | refine below_set ?_ GE543.out | refine below_set ?_ GE544.out) | exact HB.out)⟩⟩
    rw [if_pos c27] at H
    have c27b0 : decide (x9_1 < t540) = true := decide_eq_true c27
    clear c27
    (first | rw [c27b0] | (simp only [i64_w, i32_w]; rw [c27b0]) | skip)
    by_cases c28 : x9_1 < 9
    rotate_left
    ·rw [if_neg c28] at H
     have c28b0 : decide (x9_1 < 9) = false := decide_eq_false c28
     clear c28
     have H' := Aside0.mk H
     clear H
     go_wp2
     go_meet
     case rel => exact ⟨_, (false), (by first | rfl | (simp; done) | (simp [*]; done)), H', ⟨by have := HK1.out; first | omega | exact Nat.le_refl _⟩, ⟨by (with_reducible repeat (first | apply Kd.R_alloc | apply Kd.R_drewN | apply Kd.R_drew)); exact HO_138.out⟩, ⟨by exact Kq_ BK530⟩, ⟨by exact Kq_ BK538⟩, ⟨by exact Kq_ BK539⟩, ⟨by exact Kq_ BK543⟩, ⟨by exact Kq_ BK544⟩, ⟨by repeat (first | (with_reducible first | exact HB.out | apply below_alloc | apply pw_below_drewN | apply below_drew1 | refine below_set ?_ GE530.out | refine below_set ?_ GE538.out | refine below_set ?_ GE539.out | refine below_set ?_ GE543.out | refine below_set ?_ GE544.out) | exact HB.out)⟩⟩
    rw [if_pos c28] at H
    have c28b0 : decide (x9_1 < 9) = true := decide_eq_true c28
    clear c28
    have H' := Aside0.mk H
    clear H
    have hnb29 := NB543_530.out
    have hnc29 := NB530_543.out
    have hnb30 := NB543_538.out
    have hnc30 := NB538_543.out
    have hnb31 := NB543_539.out
    have hnc31 := NB539_543.out
    have hnb32 := NB543_544.out
    have hnc32 := NB544_543.out
    obtain ⟨hcz33_0, hcz33_1, hfz33_0, hfz33_1⟩ := Ke2_ BK543.out
    go_wp2
    go_meet
    case rel => exact ⟨_, (!x139_1), (by first | rfl | (simp; done) | (simp [*]; done)), H', ⟨by have := HK1.out; first | omega | exact Nat.le_refl _⟩, ⟨by (with_reducible repeat (first | apply Kd.R_alloc | apply Kd.R_drewN | apply Kd.R_drew)); exact HO_138.out⟩, ⟨by exact Kq_ BK530⟩, ⟨by exact Kq_ BK538⟩, ⟨by exact Kq_ BK539⟩, ⟨by exact Kq_ BK543⟩, ⟨by exact Kq_ BK544⟩, ⟨by repeat (first | (with_reducible first | exact HB.out | apply below_alloc | apply pw_below_drewN | apply below_drew1 | refine below_set ?_ GE530.out | refine below_set ?_ GE538.out | refine below_set ?_ GE539.out | refine below_set ?_ GE543.out | refine below_set ?_ GE544.out) | exact HB.out)⟩⟩
   case rest =>
    clear HC26
    try clear c1
    try clear c2
    try clear p2
    try clear c3
    try clear c5
    try clear c8
    try clear c9
    try clear c11
    try clear c15
    try clear c16
    try clear c17
    try clear c21
    try clear c22
    try clear c23
    try clear c24
    try clear c27
    try clear c27b0
    try clear c28
    try clear c28b0
    try clear c29
    try clear c30
    try clear c31
    try clear c32
    try clear hcz10_0
    try clear hcz10_1
    try clear hcz10_2
    try clear hcz10_3
    try clear hcz10_4
    try clear hcz12_0
    try clear hcz12_1
    try clear hcz18_0
    try clear hcz18_1
    try clear hcz19_0
    try clear hcz19_1
    try clear hcz19_2
    try clear hcz19_3
    try clear hcz19_4
    try clear hcz25_0
    try clear hcz25_1
    try clear hcz25_2
    try clear hcz25_3
    try clear hcz25_4
    try clear hcz25_5
    try clear hcz33_0
    try clear hcz33_1
    try clear hfz10_0
    try clear hfz10_1
    try clear hfz10_2
    try clear hfz10_3
    try clear hfz10_4
    try clear hfz12_0
    try clear hfz12_1
    try clear hfz18_0
    try clear hfz18_1
    try clear hfz19_0
    try clear hfz19_1
    try clear hfz19_2
    try clear hfz19_3
    try clear hfz19_4
    try clear hfz25_0
    try clear hfz25_1
    try clear hfz25_2
    try clear hfz25_3
    try clear hfz25_4
    try clear hfz25_5
    try clear hfz33_0
    try clear hfz33_1
    try clear p2
    obtain ⟨kq, x38_25, rfl, HA, HJ25, HO_138, BK530, BK538, BK539, BK543, BK544, HB⟩ := hcut
    cases kq with
    | zero => exact absurd HA.out (by simp [tenementref08_Read.j1])
    | succ kj25 =>
     have H := HA.out
     clear HA
     simp only [tenementref08_Read.j1] at H
     by_cases c34 : x38_25 = true
     rotate_left
     ·replace c34 := Bool.eq_false_iff.mpr c34
      subst c34
      have H1 : ((tenementref08_Bytes.f kj25 t531 t532 t533 t534 t535 x138_1).bind fun bt545 => (if bt545.2 = true then (if bt545.1.toList = a0.toList then (some (t531, t532, t533, t534, t535, x138_1, true)) else (some (0, 0, 0, 0, 0, ([] : List (S38)), false))) else (some (0, 0, 0, 0, 0, ([] : List (S38)), false)))) = some (r1, r2, r3, r4, r5, r6, r7) := by rw [if_neg (show ¬ (false = true) by decide)] at H; exact H
      clear H
      have H := H1
      clear H1
      replace H := Option.bind_eq_some_iff.mp H
      obtain ⟨⟨t545, t546⟩, A146, H⟩ := H
      replace H : (if t546 = true then (if t545.toList = a0.toList then (some (t531, t532, t533, t534, t535, x138_1, true)) else (some (0, 0, 0, 0, 0, ([] : List (S38)), false))) else (some (0, 0, 0, 0, 0, ([] : List (S38)), false))) = some (r1, r2, r3, r4, r5, r6, r7) := H
      have A101 := Aside0.mk A146
      clear A146
      by_cases c102 : t546 = true
      rotate_left
      ·replace c102 := Bool.eq_false_iff.mpr c102
       subst c102
       have H1 : (some (0, 0, 0, 0, 0, ([] : List (S38)), false)) = some (r1, r2, r3, r4, r5, r6, r7) := by rw [if_neg (show ¬ (false = true) by decide)] at H; exact H
       clear H
       have H := H1
       clear H1
       simp only [Option.some.injEq, Prod.mk.injEq] at H
       obtain ⟨rfl, rfl, rfl, rfl, rfl, rfl, rfl⟩ := H
       have hnb127 := NB544_530.out
       have hnc127 := NB530_544.out
       have hnb128 := NB544_538.out
       have hnc128 := NB538_544.out
       have hnb129 := NB544_539.out
       have hnc129 := NB539_544.out
       have hnb130 := NB544_543.out
       have hnc130 := NB543_544.out
       obtain ⟨hcz131_0, hcz131_1, hcz131_2, hcz131_3, hcz131_4, hcz131_5, hfz131_0, hfz131_1, hfz131_2, hfz131_3, hfz131_4, hfz131_5⟩ := Ke6_ BK544.out
       obtain ⟨Ao132, co132, eo132⟩ := Kd.R_slice HO_138.out
       subst eo132
       go_wp2_with (first | ((with_reducible refine gate_callee (f := 16) rfl ?_); refine Kg_ (some 79) rfl rfl Try.func16 (by kernel_rfl) rfl #[.agg #[.int .u64 t531, .int .u64 t532, .int .u64 t533, .int .u64 t534, .int .i64 t535, .slice Ao132 x138_1.length co132]] rfl ?_; (with_reducible refine (tenementref08_Bytes.calls kj25 t531 t532 t533 t534 t535 _ _ x138_1 t545 false _ ?side1 ?side2 A101.out).mono ?_); (case side1 => repeat (first | exact (Kd.R_reads' HO_138.out).2.2 | (with_reducible refine Kd.C_alloc ?_ _) | (with_reducible refine Kd.C_drewN ?_ _) | (with_reducible refine Kd.C_drew ?_))); (case side2 => exact (Kd.R_reads' HO_138.out).2.1); rintro e w133 ⟨rfl, hb⟩; refine ⟨_, rfl, ?_⟩; replace HO_138 := Aside0.mk (Kd.R_below (Ku_ HO_138) hb); replace BK530 := Kb_ BK530 hb; replace BK538 := Kb_ BK538 hb; replace BK539 := Kb_ BK539 hb; replace BK543 := Kb_ BK543 hb; replace BK544 := Kb_ BK544 hb; replace HB := Ks_ HB hb; (try clear hb); (try clear hb2); (try clear hk); (try clear hi); have hnb134 := NB530_538.out; have hnc134 := NB538_530.out; have hnb135 := NB530_539.out; have hnc135 := NB539_530.out; have hnb136 := NB530_543.out; have hnc136 := NB543_530.out; obtain ⟨hcz137_0, hcz137_1, hcz137_2, hcz137_3, hcz137_4, hcz137_5, hfz137_0, hfz137_1, hfz137_2, hfz137_3, hfz137_4, hfz137_5⟩ := Ke6_ BK530.out))
       refine bodyPost_ret (results_ct rfl _ _ gb530 52 #[.int .u64 0, .int .u64 0, .int .u64 0, .int .u64 0, .int .i64 0, .slice none 0 0] (0, 0) _ rfl (by refine Kv_ ?_; refine blk_put (cs := #[.int .u64 0, .int .u64 0, .int .u64 0, .int .u64 0, .int .i64 0, .slice none 0 0]) ?_ 5 _ rfl; refine Kv_ ?_; refine blk_put (cs := #[.int .u64 0, .int .u64 0, .int .u64 0, .int .u64 0, .int .i64 0, .slice none 0 0]) ?_ 4 _ rfl; refine Kv_ ?_; refine blk_put (cs := #[.int .u64 0, .int .u64 0, .int .u64 0, .int .u64 0, .int .i64 0, .slice none 0 0]) ?_ 3 _ rfl; refine Kv_ ?_; refine blk_put (cs := #[.int .u64 0, .int .u64 0, .int .u64 0, .int .u64 0, .int .i64 0, .slice none 0 0]) ?_ 2 _ rfl; refine Kv_ ?_; refine blk_put (cs := #[.int .u64 0, .int .u64 0, .int .u64 0, .int .u64 0, .int .i64 0, .slice none 0 0]) ?_ 1 _ rfl; refine Kv_ ?_; refine blk_put (cs := #[.int .u64 0, .int .u64 0, .int .u64 0, .int .u64 0, .int .i64 0, .slice none 0 0]) ?_ 0 _ rfl; exact Kq_ BK530) Try.underlying52 rfl (by kernel_rfl)) rfl ?_
       exact ⟨_, by first | rfl | (simp [errW_none, errW_some] <;> rfl) | (simp [*, errW_none, errW_some] <;> rfl), by first | exact Kd.R_nil _ _ _ _ _ | exact Kd.N_nil _ _ _ _ _ | exact Kd.V_nil _ _ _ _ _ | exact Kd.Q_nil _ _ _ _ _ | exact Kd.S_nil _ _ _ _ _, by repeat (first | (with_reducible first | exact HB.out | apply below_alloc | apply pw_below_drewN | apply below_drew1 | refine below_set ?_ GE530.out | refine below_set ?_ GE538.out | refine below_set ?_ GE539.out | refine below_set ?_ GE543.out | refine below_set ?_ GE544.out) | exact HB.out)⟩
      subst c102
      have H1 : (if t545.toList = a0.toList then (some (t531, t532, t533, t534, t535, x138_1, true)) else (some (0, 0, 0, 0, 0, ([] : List (S38)), false))) = some (r1, r2, r3, r4, r5, r6, r7) := by rw [if_pos rfl] at H; exact H
      clear H
      have H := H1
      clear H1
      by_cases c103 : t545.toList = a0.toList
      rotate_left
      ·rw [if_neg c103] at H
       have c103b0 : (t545.toList == a0.toList) = false := beq_eq_false_iff_ne.mpr c103
       have c103b1 : (t545.toList != a0.toList) = true := bne_iff_ne.mpr c103
       simp only [Option.some.injEq, Prod.mk.injEq] at H
       obtain ⟨rfl, rfl, rfl, rfl, rfl, rfl, rfl⟩ := H
       have hnb116 := NB544_530.out
       have hnc116 := NB530_544.out
       have hnb117 := NB544_538.out
       have hnc117 := NB538_544.out
       have hnb118 := NB544_539.out
       have hnc118 := NB539_544.out
       have hnb119 := NB544_543.out
       have hnc119 := NB543_544.out
       obtain ⟨hcz120_0, hcz120_1, hcz120_2, hcz120_3, hcz120_4, hcz120_5, hfz120_0, hfz120_1, hfz120_2, hfz120_3, hfz120_4, hfz120_5⟩ := Ke6_ BK544.out
       obtain ⟨Ao121, co121, eo121⟩ := Kd.R_slice HO_138.out
       subst eo121
       go_wp2_with (first | ((with_reducible refine gate_callee (f := 16) rfl ?_); refine Kg_ (some 79) rfl rfl Try.func16 (by kernel_rfl) rfl #[.agg #[.int .u64 t531, .int .u64 t532, .int .u64 t533, .int .u64 t534, .int .i64 t535, .slice Ao121 x138_1.length co121]] rfl ?_; (with_reducible refine (tenementref08_Bytes.calls kj25 t531 t532 t533 t534 t535 _ _ x138_1 t545 true _ ?side1 ?side2 A101.out).mono ?_); (case side1 => repeat (first | exact (Kd.R_reads' HO_138.out).2.2 | (with_reducible refine Kd.C_alloc ?_ _) | (with_reducible refine Kd.C_drewN ?_ _) | (with_reducible refine Kd.C_drew ?_))); (case side2 => exact (Kd.R_reads' HO_138.out).2.1); rintro e w122 ⟨rfl, hb⟩; refine ⟨_, rfl, ?_⟩; replace HO_138 := Aside0.mk (Kd.R_below (Ku_ HO_138) hb); replace BK530 := Kb_ BK530 hb; replace BK538 := Kb_ BK538 hb; replace BK539 := Kb_ BK539 hb; replace BK543 := Kb_ BK543 hb; replace BK544 := Kb_ BK544 hb; replace HB := Ks_ HB hb; (try clear hb); (try clear hb2); (try clear hk); (try clear hi); have hnb123 := NB530_538.out; have hnc123 := NB538_530.out; have hnb124 := NB530_539.out; have hnc124 := NB539_530.out; have hnb125 := NB530_543.out; have hnc125 := NB543_530.out; obtain ⟨hcz126_0, hcz126_1, hcz126_2, hcz126_3, hcz126_4, hcz126_5, hfz126_0, hfz126_1, hfz126_2, hfz126_3, hfz126_4, hfz126_5⟩ := Ke6_ BK530.out))
       refine bodyPost_ret (results_ct rfl _ _ gb530 52 #[.int .u64 0, .int .u64 0, .int .u64 0, .int .u64 0, .int .i64 0, .slice none 0 0] (0, 0) _ rfl (by refine Kv_ ?_; refine blk_put (cs := #[.int .u64 0, .int .u64 0, .int .u64 0, .int .u64 0, .int .i64 0, .slice none 0 0]) ?_ 5 _ rfl; refine Kv_ ?_; refine blk_put (cs := #[.int .u64 0, .int .u64 0, .int .u64 0, .int .u64 0, .int .i64 0, .slice none 0 0]) ?_ 4 _ rfl; refine Kv_ ?_; refine blk_put (cs := #[.int .u64 0, .int .u64 0, .int .u64 0, .int .u64 0, .int .i64 0, .slice none 0 0]) ?_ 3 _ rfl; refine Kv_ ?_; refine blk_put (cs := #[.int .u64 0, .int .u64 0, .int .u64 0, .int .u64 0, .int .i64 0, .slice none 0 0]) ?_ 2 _ rfl; refine Kv_ ?_; refine blk_put (cs := #[.int .u64 0, .int .u64 0, .int .u64 0, .int .u64 0, .int .i64 0, .slice none 0 0]) ?_ 1 _ rfl; refine Kv_ ?_; refine blk_put (cs := #[.int .u64 0, .int .u64 0, .int .u64 0, .int .u64 0, .int .i64 0, .slice none 0 0]) ?_ 0 _ rfl; exact Kq_ BK530) Try.underlying52 rfl (by kernel_rfl)) rfl ?_
       exact ⟨_, by first | rfl | (simp [errW_none, errW_some] <;> rfl) | (simp [*, errW_none, errW_some] <;> rfl), by first | exact Kd.R_nil _ _ _ _ _ | exact Kd.N_nil _ _ _ _ _ | exact Kd.V_nil _ _ _ _ _ | exact Kd.Q_nil _ _ _ _ _ | exact Kd.S_nil _ _ _ _ _, by repeat (first | (with_reducible first | exact HB.out | apply below_alloc | apply pw_below_drewN | apply below_drew1 | refine below_set ?_ GE530.out | refine below_set ?_ GE538.out | refine below_set ?_ GE539.out | refine below_set ?_ GE543.out | refine below_set ?_ GE544.out) | exact HB.out)⟩
      rw [if_pos c103] at H
      have c103b0 : (t545.toList == a0.toList) = true := beq_iff_eq.mpr c103
      have c103b1 : (t545.toList != a0.toList) = false := bne_eq_false_iff_eq.mpr c103
      clear c103
      simp only [Option.some.injEq, Prod.mk.injEq] at H
      obtain ⟨rfl, rfl, rfl, rfl, rfl, rfl, rfl⟩ := H
      have hnb104 := NB544_530.out
      have hnc104 := NB530_544.out
      have hnb105 := NB544_538.out
      have hnc105 := NB538_544.out
      have hnb106 := NB544_539.out
      have hnc106 := NB539_544.out
      have hnb107 := NB544_543.out
      have hnc107 := NB543_544.out
      obtain ⟨hcz108_0, hcz108_1, hcz108_2, hcz108_3, hcz108_4, hcz108_5, hfz108_0, hfz108_1, hfz108_2, hfz108_3, hfz108_4, hfz108_5⟩ := Ke6_ BK544.out
      obtain ⟨Ao109, co109, eo109⟩ := Kd.R_slice HO_138.out
      subst eo109
      go_wp2_with (first | ((with_reducible refine gate_callee (f := 16) rfl ?_); refine Kg_ (some 79) rfl rfl Try.func16 (by kernel_rfl) rfl #[.agg #[.int .u64 t531, .int .u64 t532, .int .u64 t533, .int .u64 t534, .int .i64 t535, .slice Ao109 x138_1.length co109]] rfl ?_; (with_reducible refine (tenementref08_Bytes.calls kj25 t531 t532 t533 t534 t535 _ _ x138_1 t545 true _ ?side1 ?side2 A101.out).mono ?_); (case side1 => repeat (first | exact (Kd.R_reads' HO_138.out).2.2 | (with_reducible refine Kd.C_alloc ?_ _) | (with_reducible refine Kd.C_drewN ?_ _) | (with_reducible refine Kd.C_drew ?_))); (case side2 => exact (Kd.R_reads' HO_138.out).2.1); rintro e w110 ⟨rfl, hb⟩; refine ⟨_, rfl, ?_⟩; replace HO_138 := Aside0.mk (Kd.R_below (Ku_ HO_138) hb); replace BK530 := Kb_ BK530 hb; replace BK538 := Kb_ BK538 hb; replace BK539 := Kb_ BK539 hb; replace BK543 := Kb_ BK543 hb; replace BK544 := Kb_ BK544 hb; replace HB := Ks_ HB hb; (try clear hb); (try clear hb2); (try clear hk); (try clear hi); obtain ⟨hcz111_0, hcz111_1, hcz111_2, hcz111_3, hcz111_4, hcz111_5, hfz111_0, hfz111_1, hfz111_2, hfz111_3, hfz111_4, hfz111_5⟩ := Ke6_ BK544.out; have hnb112 := NB530_538.out; have hnc112 := NB538_530.out; have hnb113 := NB530_539.out; have hnc113 := NB539_530.out; have hnb114 := NB530_543.out; have hnc114 := NB543_530.out; obtain ⟨hcz115_0, hcz115_1, hcz115_2, hcz115_3, hcz115_4, hcz115_5, hfz115_0, hfz115_1, hfz115_2, hfz115_3, hfz115_4, hfz115_5⟩ := Ke6_ BK530.out))
      refine bodyPost_ret (results_ct rfl _ _ gb530 52 #[.int .u64 t531, .int .u64 t532, .int .u64 t533, .int .u64 t534, .int .i64 t535, .slice Ao109 x138_1.length co109] (0, 0) _ rfl (by refine Kv_ ?_; refine blk_put (cs := #[.int .u64 t531, .int .u64 t532, .int .u64 t533, .int .u64 t534, .int .i64 t535, .slice none 0 0]) ?_ 5 _ rfl; refine Kv_ ?_; refine blk_put (cs := #[.int .u64 t531, .int .u64 t532, .int .u64 t533, .int .u64 t534, .int .i64 0, .slice none 0 0]) ?_ 4 _ rfl; refine Kv_ ?_; refine blk_put (cs := #[.int .u64 t531, .int .u64 t532, .int .u64 t533, .int .u64 0, .int .i64 0, .slice none 0 0]) ?_ 3 _ rfl; refine Kv_ ?_; refine blk_put (cs := #[.int .u64 t531, .int .u64 t532, .int .u64 0, .int .u64 0, .int .i64 0, .slice none 0 0]) ?_ 2 _ rfl; refine Kv_ ?_; refine blk_put (cs := #[.int .u64 t531, .int .u64 0, .int .u64 0, .int .u64 0, .int .i64 0, .slice none 0 0]) ?_ 1 _ rfl; refine Kv_ ?_; refine blk_put (cs := #[.int .u64 0, .int .u64 0, .int .u64 0, .int .u64 0, .int .i64 0, .slice none 0 0]) ?_ 0 _ rfl; exact Kq_ BK530) Try.underlying52 rfl (by kernel_rfl)) rfl ?_
      exact ⟨_, by first | rfl | (simp [errW_none, errW_some] <;> rfl) | (simp [*, errW_none, errW_some] <;> rfl), by (with_reducible repeat (first | apply Kd.R_alloc | apply Kd.R_drewN | apply Kd.R_drew)); exact Kd.R_mono (Kd.R_far (p := ⟨gb530, 5, none⟩) (Kd.R_far (p := ⟨gb530, 4, none⟩) (Kd.R_far (p := ⟨gb530, 3, none⟩) (Kd.R_far (p := ⟨gb530, 2, none⟩) (Kd.R_far (p := ⟨gb530, 1, none⟩) (Kd.R_far (p := ⟨gb530, 0, none⟩) (Kd.R_types HO_138.out BK530.out (by decide)) (fun _ hk => hk.2) (.int .u64 t531)) (fun _ hk => hk.2) (.int .u64 t532)) (fun _ hk => hk.2) (.int .u64 t533)) (fun _ hk => hk.2) (.int .u64 t534)) (fun _ hk => hk.2) (.int .i64 t535)) (fun _ hk => hk.2) (.slice Ao109 x138_1.length co109)) (fun _ hk => trivial), by repeat (first | (with_reducible first | exact HB.out | apply below_alloc | apply pw_below_drewN | apply below_drew1 | refine below_set ?_ GE530.out | refine below_set ?_ GE538.out | refine below_set ?_ GE539.out | refine below_set ?_ GE543.out | refine below_set ?_ GE544.out) | exact HB.out)⟩
     subst c34
     have H1 : ((tenementref02_Reader_Text.f kj25 x140_1 x139_1 16).bind fun bt548 => ((tenementref02_Reader_Text.f kj25 bt548.2.1 bt548.2.2 16).bind fun bt551 => ((tenementref02_Reader_Number.f kj25 bt551.2.1 bt551.2.2 1).bind fun bt554 => (if bt554.1 = 1 then (if x138_1.length < 2513169434916 then (tenementref08_Read.l0 kj25 a0 t540 (IntKind.u64.wrap (x9_1 + 1)) bt554.2.1 bt554.2.2 t531 t532 t533 t534 t535 (x138_1 ++ [(⟨bt548.1, bt551.1, (⟨#[]⟩ : ByteArray), (bt554.1 == 1)⟩ : S38)])) else (none)) else ((tenementref02_Reader_Text.f kj25 bt554.2.1 bt554.2.2 32).bind fun bt560 => (if x138_1.length < 2513169434916 then (tenementref08_Read.l0 kj25 a0 t540 (IntKind.u64.wrap (x9_1 + 1)) bt560.2.1 bt560.2.2 t531 t532 t533 t534 t535 (x138_1 ++ [(⟨bt548.1, bt551.1, bt560.1, (bt554.1 == 1)⟩ : S38)])) else (none))))))) = some (r1, r2, r3, r4, r5, r6, r7) := by rw [if_pos rfl] at H; exact H
     clear H
     have H := H1
     clear H1
     replace H := Option.bind_eq_some_iff.mp H
     obtain ⟨⟨t548, t549, t550⟩, A350, H⟩ := H
     replace H : ((tenementref02_Reader_Text.f kj25 t549 t550 16).bind fun bt551 => ((tenementref02_Reader_Number.f kj25 bt551.2.1 bt551.2.2 1).bind fun bt554 => (if bt554.1 = 1 then (if x138_1.length < 2513169434916 then (tenementref08_Read.l0 kj25 a0 t540 (IntKind.u64.wrap (x9_1 + 1)) bt554.2.1 bt554.2.2 t531 t532 t533 t534 t535 (x138_1 ++ [(⟨t548, bt551.1, (⟨#[]⟩ : ByteArray), (bt554.1 == 1)⟩ : S38)])) else (none)) else ((tenementref02_Reader_Text.f kj25 bt554.2.1 bt554.2.2 32).bind fun bt560 => (if x138_1.length < 2513169434916 then (tenementref08_Read.l0 kj25 a0 t540 (IntKind.u64.wrap (x9_1 + 1)) bt560.2.1 bt560.2.2 t531 t532 t533 t534 t535 (x138_1 ++ [(⟨t548, bt551.1, bt560.1, (bt554.1 == 1)⟩ : S38)])) else (none)))))) = some (r1, r2, r3, r4, r5, r6, r7) := H
     have A35 := Aside0.mk A350
     clear A350
     replace H := Option.bind_eq_some_iff.mp H
     obtain ⟨⟨t551, t552, t553⟩, A360, H⟩ := H
     replace H : ((tenementref02_Reader_Number.f kj25 t552 t553 1).bind fun bt554 => (if bt554.1 = 1 then (if x138_1.length < 2513169434916 then (tenementref08_Read.l0 kj25 a0 t540 (IntKind.u64.wrap (x9_1 + 1)) bt554.2.1 bt554.2.2 t531 t532 t533 t534 t535 (x138_1 ++ [(⟨t548, t551, (⟨#[]⟩ : ByteArray), (bt554.1 == 1)⟩ : S38)])) else (none)) else ((tenementref02_Reader_Text.f kj25 bt554.2.1 bt554.2.2 32).bind fun bt560 => (if x138_1.length < 2513169434916 then (tenementref08_Read.l0 kj25 a0 t540 (IntKind.u64.wrap (x9_1 + 1)) bt560.2.1 bt560.2.2 t531 t532 t533 t534 t535 (x138_1 ++ [(⟨t548, t551, bt560.1, (bt554.1 == 1)⟩ : S38)])) else (none))))) = some (r1, r2, r3, r4, r5, r6, r7) := H
     have A36 := Aside0.mk A360
     clear A360
     replace H := Option.bind_eq_some_iff.mp H
     obtain ⟨⟨t554, t555, t556⟩, A370, H⟩ := H
     replace H : (if t554 = 1 then (if x138_1.length < 2513169434916 then (tenementref08_Read.l0 kj25 a0 t540 (IntKind.u64.wrap (x9_1 + 1)) t555 t556 t531 t532 t533 t534 t535 (x138_1 ++ [(⟨t548, t551, (⟨#[]⟩ : ByteArray), (t554 == 1)⟩ : S38)])) else (none)) else ((tenementref02_Reader_Text.f kj25 t555 t556 32).bind fun bt560 => (if x138_1.length < 2513169434916 then (tenementref08_Read.l0 kj25 a0 t540 (IntKind.u64.wrap (x9_1 + 1)) bt560.2.1 bt560.2.2 t531 t532 t533 t534 t535 (x138_1 ++ [(⟨t548, t551, bt560.1, (t554 == 1)⟩ : S38)])) else (none)))) = some (r1, r2, r3, r4, r5, r6, r7) := H
     have A37 := Aside0.mk A370
     clear A370
     by_cases c38 : t554 = 1
     ·rw [if_pos c38] at H
      have c38b0 : (t554 == 1) = true := beq_iff_eq.mpr c38
      (try simp only [c38b0] at H)
      have c38b1 : (t554 != 1) = false := bne_eq_false_iff_eq.mpr c38
      clear c38
      by_cases c39 : x138_1.length < 2513169434916
      rotate_left
      ·rw [if_neg c39] at H
       exact absurd H (by simp)
      rw [if_pos c39] at H
      have LMc39 := Aside0.mk c39
      clear c39
      obtain ⟨y557, hy557⟩ : ∃ y_ : List (S38), y_ = (x138_1 ++ [(⟨t548, t551, (⟨#[]⟩ : ByteArray), true⟩ : S38)]) := ⟨_, rfl⟩
      replace H : (tenementref08_Read.l0 kj25 a0 t540 (IntKind.u64.wrap (x9_1 + 1)) t555 t556 t531 t532 t533 t534 t535 y557) = some (r1, r2, r3, r4, r5, r6, r7) := by first | (rw [hy557]; with_reducible exact H) | (have H2_ := (Option.bind_some _ _).symm.trans H; rw [hy557]; with_reducible exact H2_) | (have H2_ := (Option.bind_some _ _).symm.trans H; with_reducible exact H2_) | with_reducible exact H | (rw [hy557]; exact H) | exact H
      have Ny557 := Aside0.mk hy557
      clear hy557
      have H' := Aside0.mk H
      clear H
      go_wp2_with (first | ((with_reducible refine gate_dst (N := 10) rfl ?_); refine Ka_ 10 #[.string (⟨#[]⟩ : ByteArray), .string (⟨#[]⟩ : ByteArray), .string (⟨#[]⟩ : ByteArray), .bool false] 38 ?_; intro gb547 hg w40 hbox hb; have BK547 := Aside0.mk (hbox); have GW547 := Kw_ HB hg; have GE547 := GW547; have NB530_547 := Kl_ BK530 hg; have NB547_530 := Kr_ BK530 hg; have NB538_547 := Kl_ BK538 hg; have NB547_538 := Kr_ BK538 hg; have NB539_547 := Kl_ BK539 hg; have NB547_539 := Kr_ BK539 hg; have NB543_547 := Kl_ BK543 hg; have NB547_543 := Kr_ BK543 hg; have NB544_547 := Kl_ BK544 hg; have NB547_544 := Kr_ BK544 hg; replace HO_138 := Aside0.mk (Kd.R_below (Kd.R_elderB (Ku_ HO_138) gb547 (Nat.le_of_eq hg.symm)) hb); replace BK530 := Kb_ BK530 hb; replace BK538 := Kb_ BK538 hb; replace BK539 := Kb_ BK539 hb; replace BK543 := Kb_ BK543 hb; replace BK544 := Kb_ BK544 hb; replace HB := Ks_ HB hb; clear hb hbox hg; have hnb41 := NB547_530.out; have hnc41 := NB530_547.out; have hnb42 := NB547_538.out; have hnc42 := NB538_547.out; have hnb43 := NB547_539.out; have hnc43 := NB539_547.out; have hnb44 := NB547_543.out; have hnc44 := NB543_547.out; have hnb45 := NB547_544.out; have hnc45 := NB544_547.out; obtain ⟨hcz46_0, hcz46_1, hcz46_2, hcz46_3, hfz46_0, hfz46_1, hfz46_2, hfz46_3⟩ := Ke4_ BK547.out; have hnb47 := NB543_530.out; have hnc47 := NB530_543.out; have hnb48 := NB543_538.out; have hnc48 := NB538_543.out; have hnb49 := NB543_539.out; have hnc49 := NB539_543.out; have hnb50 := NB543_544.out; have hnc50 := NB544_543.out; obtain ⟨hcz51_0, hcz51_1, hfz51_0, hfz51_1⟩ := Ke2_ BK543.out) | ((with_reducible refine gate_callee (f := 58) rfl ?_); refine Kg_ (some 44) rfl rfl Try.func58 (by kernel_rfl) rfl #[.agg #[.string x140_1, .bool x139_1], .int .i64 16] rfl ?_; (with_reducible refine (tenementref02_Reader_Text.calls kj25 x140_1 x139_1 16 t548 t549 t550 _ A35.out).mono ?_); rintro e w52 ⟨rfl, hb⟩; refine ⟨_, rfl, ?_⟩; replace HO_138 := Aside0.mk (Kd.R_below (by (with_reducible repeat (first | apply Kd.R_alloc | apply Kd.R_drewN | apply Kd.R_drew)); exact (Kd.R_mono (Kd.R_far (p := ⟨gb547, 3, none⟩) (Kd.R_far (p := ⟨gb547, 2, none⟩) (Kd.R_far (p := ⟨gb547, 1, none⟩) (Kd.R_far (p := ⟨gb547, 0, none⟩) (Kd.R_mono HO_138.out (fun k_ hk => (⟨hk, hk.2⟩ : _ ∧ k_ ≠ gb547))) (fun _ hk => hk.2) (.string (⟨#[]⟩ : ByteArray))) (fun _ hk => hk.2) (.string (⟨#[]⟩ : ByteArray))) (fun _ hk => hk.2) (.string (⟨#[]⟩ : ByteArray))) (fun _ hk => hk.2) (.bool false)) (fun _ h_ => h_.1))) hb); replace BK530 := Kf_ BK530 NB530_547 hb; replace BK538 := Kf_ BK538 NB538_547 hb; replace BK539 := Kf_ BK539 NB539_547 hb; replace BK543 := Kf_ BK543 NB543_547 hb; replace BK544 := Kf_ BK544 NB544_547 hb; replace BK547 := Aside0.mk (blk_below (g := gb547) (o := .cells #[.string (⟨#[]⟩ : ByteArray), .string (⟨#[]⟩ : ByteArray), .string (⟨#[]⟩ : ByteArray), .bool false] 38 (0, 0)) (by refine Kv_ ?_; refine blk_put (cs := #[.string (⟨#[]⟩ : ByteArray), .string (⟨#[]⟩ : ByteArray), .string (⟨#[]⟩ : ByteArray), .bool false]) ?_ 3 _ rfl; refine Kv_ ?_; refine blk_put (cs := #[.string (⟨#[]⟩ : ByteArray), .string (⟨#[]⟩ : ByteArray), .string (⟨#[]⟩ : ByteArray), .bool false]) ?_ 2 _ rfl; refine Kv_ ?_; refine blk_put (cs := #[.string (⟨#[]⟩ : ByteArray), .string (⟨#[]⟩ : ByteArray), .string (⟨#[]⟩ : ByteArray), .bool false]) ?_ 1 _ rfl; refine Kv_ ?_; refine blk_put (cs := #[.string (⟨#[]⟩ : ByteArray), .string (⟨#[]⟩ : ByteArray), .string (⟨#[]⟩ : ByteArray), .bool false]) ?_ 0 _ rfl; exact Kq_ BK547) hb); replace HB := Kt_ HB GE547 hb; (try clear hb); (try clear hb2); (try clear hk); (try clear hi); obtain ⟨hcz53_0, hcz53_1, hcz53_2, hcz53_3, hfz53_0, hfz53_1, hfz53_2, hfz53_3⟩ := Ke4_ BK547.out; obtain ⟨hcz54_0, hcz54_1, hfz54_0, hfz54_1⟩ := Ke2_ BK543.out) | ((with_reducible refine gate_callee (f := 58) rfl ?_); refine Kg_ (some 50) rfl rfl Try.func58 (by kernel_rfl) rfl #[.agg #[.string t549, .bool t550], .int .i64 16] rfl ?_; (with_reducible refine (tenementref02_Reader_Text.calls kj25 t549 t550 16 t551 t552 t553 _ A36.out).mono ?_); rintro e w55 ⟨rfl, hb⟩; refine ⟨_, rfl, ?_⟩; replace HO_138 := Aside0.mk (Kd.R_below (by (with_reducible repeat (first | apply Kd.R_alloc | apply Kd.R_drewN | apply Kd.R_drew)); exact (Kd.R_mono (Kd.R_mono (Kd.R_far (p := ⟨gb543, 1, none⟩) (Kd.R_far (p := ⟨gb543, 0, none⟩) (Kd.R_far (p := ⟨gb547, 0, none⟩) (Kd.R_types (Kd.R_mono HO_138.out (fun k_ hk => (⟨hk, hk.2⟩ : _ ∧ k_ ≠ gb547))) BK543.out (by decide)) (fun _ hk => hk.1.2) (.string t548)) (fun _ hk => hk.2) (.string t549)) (fun _ hk => hk.2) (.bool t550)) (fun _ h_ => h_.1)) (fun _ h_ => h_.1))) hb); replace BK530 := Aside0.mk (blk_below (g := gb530) (o := .cells #[.int .u64 0, .int .u64 0, .int .u64 0, .int .u64 0, .int .i64 0, .slice none 0 0] 52 (0, 0)) (K2b_ BK530 NB530_543 NB530_547) hb); replace BK538 := Aside0.mk (blk_below (g := gb538) (o := .cells #[.int .u64 t531, .int .u64 t532, .int .u64 t533, .int .u64 t534, .int .i64 t535] 50 (0, 0)) (K2b_ BK538 NB538_543 NB538_547) hb); replace BK539 := Aside0.mk (blk_below (g := gb539) (o := .cells #[.string t536, .bool t537] 104 (0, 0)) (K2b_ BK539 NB539_543 NB539_547) hb); replace BK543 := Aside0.mk (blk_below (g := gb543) (o := .cells #[.string t549, .bool t550] 104 (0, 0)) (by refine Kv_ ?_; refine blk_put (cs := #[.string t549, .bool x139_1]) ?_ 1 _ rfl; refine Kv_ ?_; refine blk_put (cs := #[.string x140_1, .bool x139_1]) ?_ 0 _ rfl; exact K1b_ BK543 NB543_547) hb); replace BK544 := Aside0.mk (blk_below (g := gb544) (o := .cells #[.int .u64 t531, .int .u64 t532, .int .u64 t533, .int .u64 t534, .int .i64 t535, u545005] 52 (0, 0)) (K2b_ BK544 NB544_543 NB544_547) hb); replace BK547 := Aside0.mk (blk_below (g := gb547) (o := .cells #[.string t548, .string (⟨#[]⟩ : ByteArray), .string (⟨#[]⟩ : ByteArray), .bool false] 38 (0, 0)) (by (repeat (first | (with_reducible first | refine blk_drewN ?_ _ | refine blk_drew ?_ | refine blk_alloc ?_ _) | refine blk_far ?_ NB547_543.out _)); refine blk_put (cs := #[.string (⟨#[]⟩ : ByteArray), .string (⟨#[]⟩ : ByteArray), .string (⟨#[]⟩ : ByteArray), .bool false]) ?_ 0 _ rfl; exact Kq_ BK547) hb); replace HB := Aside0.mk (below_step (by repeat (first | (with_reducible first | exact HB.out | apply below_alloc | apply pw_below_drewN | apply below_drew1 | refine below_set ?_ GE530.out | refine below_set ?_ GE538.out | refine below_set ?_ GE539.out | refine below_set ?_ GE543.out | refine below_set ?_ GE544.out | refine below_set ?_ GE547.out) | exact HB.out)) hb); (try clear hb); (try clear hb2); (try clear hk); (try clear hi); obtain ⟨hcz56_0, hcz56_1, hcz56_2, hcz56_3, hfz56_0, hfz56_1, hfz56_2, hfz56_3⟩ := Ke4_ BK547.out; obtain ⟨hcz57_0, hcz57_1, hfz57_0, hfz57_1⟩ := Ke2_ BK543.out) | ((with_reducible refine gate_callee (f := 57) rfl ?_); refine Kg_ (some 56) rfl rfl Try.func57 (by kernel_rfl) rfl #[.agg #[.string t552, .bool t553], .int .i64 1] rfl ?_; (with_reducible refine (tenementref02_Reader_Number.calls kj25 t552 t553 1 t554 t555 t556 _ A37.out).mono ?_); rintro e w58 ⟨rfl, hb⟩; refine ⟨_, rfl, ?_⟩; replace HO_138 := Aside0.mk (Kd.R_below (by (with_reducible repeat (first | apply Kd.R_alloc | apply Kd.R_drewN | apply Kd.R_drew)); exact (Kd.R_mono (Kd.R_mono (Kd.R_far (p := ⟨gb543, 1, none⟩) (Kd.R_far (p := ⟨gb543, 0, none⟩) (Kd.R_far (p := ⟨gb547, 1, none⟩) (Kd.R_types (Kd.R_mono HO_138.out (fun k_ hk => (⟨hk, hk.2⟩ : _ ∧ k_ ≠ gb547))) BK543.out (by decide)) (fun _ hk => hk.1.2) (.string t551)) (fun _ hk => hk.2) (.string t552)) (fun _ hk => hk.2) (.bool t553)) (fun _ h_ => h_.1)) (fun _ h_ => h_.1))) hb); replace BK530 := Aside0.mk (blk_below (g := gb530) (o := .cells #[.int .u64 0, .int .u64 0, .int .u64 0, .int .u64 0, .int .i64 0, .slice none 0 0] 52 (0, 0)) (K2b_ BK530 NB530_543 NB530_547) hb); replace BK538 := Aside0.mk (blk_below (g := gb538) (o := .cells #[.int .u64 t531, .int .u64 t532, .int .u64 t533, .int .u64 t534, .int .i64 t535] 50 (0, 0)) (K2b_ BK538 NB538_543 NB538_547) hb); replace BK539 := Aside0.mk (blk_below (g := gb539) (o := .cells #[.string t536, .bool t537] 104 (0, 0)) (K2b_ BK539 NB539_543 NB539_547) hb); replace BK543 := Aside0.mk (blk_below (g := gb543) (o := .cells #[.string t552, .bool t553] 104 (0, 0)) (by refine Kv_ ?_; refine blk_put (cs := #[.string t552, .bool t550]) ?_ 1 _ rfl; refine Kv_ ?_; refine blk_put (cs := #[.string t549, .bool t550]) ?_ 0 _ rfl; exact K1b_ BK543 NB543_547) hb); replace BK544 := Aside0.mk (blk_below (g := gb544) (o := .cells #[.int .u64 t531, .int .u64 t532, .int .u64 t533, .int .u64 t534, .int .i64 t535, u545005] 52 (0, 0)) (K2b_ BK544 NB544_543 NB544_547) hb); replace BK547 := Aside0.mk (blk_below (g := gb547) (o := .cells #[.string t548, .string t551, .string (⟨#[]⟩ : ByteArray), .bool false] 38 (0, 0)) (by (repeat (first | (with_reducible first | refine blk_drewN ?_ _ | refine blk_drew ?_ | refine blk_alloc ?_ _) | refine blk_far ?_ NB547_543.out _)); refine blk_put (cs := #[.string t548, .string (⟨#[]⟩ : ByteArray), .string (⟨#[]⟩ : ByteArray), .bool false]) ?_ 1 _ rfl; exact Kq_ BK547) hb); replace HB := Aside0.mk (below_step (by repeat (first | (with_reducible first | exact HB.out | apply below_alloc | apply pw_below_drewN | apply below_drew1 | refine below_set ?_ GE530.out | refine below_set ?_ GE538.out | refine below_set ?_ GE539.out | refine below_set ?_ GE543.out | refine below_set ?_ GE544.out | refine below_set ?_ GE547.out) | exact HB.out)) hb); (try clear hb); (try clear hb2); (try clear hk); (try clear hi); obtain ⟨hcz59_0, hcz59_1, hfz59_0, hfz59_1⟩ := Ke2_ BK543.out; obtain ⟨hcz60_0, hcz60_1, hcz60_2, hcz60_3, hfz60_0, hfz60_1, hfz60_2, hfz60_3⟩ := Ke4_ BK547.out; have hnb61 := NB544_530.out; have hnc61 := NB530_544.out; have hnb62 := NB544_538.out; have hnc62 := NB538_544.out; have hnb63 := NB544_539.out; have hnc63 := NB539_544.out; obtain ⟨hcz64_0, hcz64_1, hcz64_2, hcz64_3, hcz64_4, hcz64_5, hfz64_0, hfz64_1, hfz64_2, hfz64_3, hfz64_4, hfz64_5⟩ := Ke6_ BK544.out) | ((with_reducible refine gate_builtin (b := .append) (xs := #[.tmp 72, .tmp 74]) rfl ?_); at_builtin; refine Kd.R_append k38 (w0 := w) w.heap.size rfl (.tmp 72) (.tmp 74) 39 38 (.agg #[(.string ⟨#[]⟩), (.string ⟨#[]⟩), (.string ⟨#[]⟩), (.bool false)]) 56 rfl Try.underlying39 info38 rfl (by decide) (by omega) u545005 x138_1 (⟨t548, t551, (⟨#[]⟩ : ByteArray), true⟩ : S38) [.string t548, .string t551, .string (⟨#[]⟩ : ByteArray), .bool true] (fun k_ => k_ ≠ gb547) (fun _ => False) rfl (by first | (go_simp; done) | (go_simp; rfl)) ?aP (fun _ hk => hk.elim) ?aF ?aO ?aB ?aS ?aL ?_; (case aP => exact k38_mkM _ _ _ (⟨t548, t551, (⟨#[]⟩ : ByteArray), true⟩ : S38)); (case aB => exact (by repeat (first | (with_reducible first | exact HB.out | apply below_alloc | apply pw_below_drewN | apply below_drew1 | refine below_set ?_ GE530.out | refine below_set ?_ GE538.out | refine below_set ?_ GE539.out | refine below_set ?_ GE543.out | refine below_set ?_ GE544.out | refine below_set ?_ GE547.out) | exact HB.out))); (case aF => exact (fun k_ hk => Kd.freshB (g := gb547) (o := .cells #[.string t548, .string t551, .string (⟨#[]⟩ : ByteArray), .bool true] 38 (0, 0)) (by refine Kv_ ?_; refine blk_put (cs := #[.string t548, .string t551, .string (⟨#[]⟩ : ByteArray), .bool false]) ?_ 3 _ rfl; exact K1b_ BK547 NB547_543) k_ hk)); (case aO => exact (by (with_reducible repeat (first | apply Kd.R_alloc | apply Kd.R_drewN | apply Kd.R_drew)); exact Kd.R_mono (Kd.R_far (p := ⟨gb547, 3, none⟩) (Kd.R_far (p := ⟨gb543, 1, none⟩) (Kd.R_far (p := ⟨gb543, 0, none⟩) (Kd.R_mono (Kd.R_types HO_138.out BK543.out (by decide)) (fun k_ hk => (⟨hk, hk.1.2⟩ : _ ∧ k_ ≠ gb547))) (fun _ hk => hk.1.2) (.string t555)) (fun _ hk => hk.1.2) (.bool t556)) (fun _ hk => hk.2) (.bool true)) (fun _ hk => hk.1.1.2))); (case aS => exact (below_size (by repeat (first | (with_reducible first | exact HB.out | apply below_alloc | apply pw_below_drewN | apply below_drew1 | refine below_set ?_ GE530.out | refine below_set ?_ GE538.out | refine below_set ?_ GE539.out | refine below_set ?_ GE543.out | refine below_set ?_ GE544.out | refine below_set ?_ GE547.out) | exact HB.out)))); (case aL => have := LMc39.out; omega); intro v558 w65 ho hb hg hat; rw [← Ny557.out] at ho; have HO559 := Aside0.mk (ho); replace BK530 := Aside0.mk (blk_grown (g := gb530) (o := .cells #[.int .u64 0, .int .u64 0, .int .u64 0, .int .u64 0, .int .i64 0, .slice none 0 0] 52 (0, 0)) (K2b_ BK530 NB530_547 NB530_543) hg (Kd.R_ne HO_138.out BK530.out (by decide))); replace BK538 := Aside0.mk (blk_grown (g := gb538) (o := .cells #[.int .u64 t531, .int .u64 t532, .int .u64 t533, .int .u64 t534, .int .i64 t535] 50 (0, 0)) (K2b_ BK538 NB538_547 NB538_543) hg (Kd.R_ne HO_138.out BK538.out (by decide))); replace BK539 := Aside0.mk (blk_grown (g := gb539) (o := .cells #[.string t536, .bool t537] 104 (0, 0)) (K2b_ BK539 NB539_547 NB539_543) hg (Kd.R_ne HO_138.out BK539.out (by decide))); replace BK543 := Aside0.mk (blk_grown (g := gb543) (o := .cells #[.string t555, .bool t556] 104 (0, 0)) (by (repeat (first | (with_reducible first | refine blk_drewN ?_ _ | refine blk_drew ?_ | refine blk_alloc ?_ _) | refine blk_far ?_ NB543_547.out _)); refine blk_put (cs := #[.string t555, .bool t553]) ?_ 1 _ rfl; refine Kv_ ?_; refine blk_put (cs := #[.string t552, .bool t553]) ?_ 0 _ rfl; exact Kq_ BK543) hg (Kd.R_ne HO_138.out BK543.out (by decide))); replace BK544 := Aside0.mk (blk_grown (g := gb544) (o := .cells #[.int .u64 t531, .int .u64 t532, .int .u64 t533, .int .u64 t534, .int .i64 t535, u545005] 52 (0, 0)) (K2b_ BK544 NB544_547 NB544_543) hg (Kd.R_ne HO_138.out BK544.out (by decide))); replace BK547 := Aside0.mk (blk_grown (g := gb547) (o := .cells #[.string t548, .string t551, .string (⟨#[]⟩ : ByteArray), .bool true] 38 (0, 0)) (by refine Kv_ ?_; refine blk_put (cs := #[.string t548, .string t551, .string (⟨#[]⟩ : ByteArray), .bool false]) ?_ 3 _ rfl; exact K1b_ BK547 NB547_543) hg (Kd.R_away HO_138.out (fun _ hk => hk.2))); replace HB := Aside0.mk (hb); clear HO_138; clear ho hb hg hat; obtain ⟨Ao66, co66, eo66⟩ := Kd.R_slice HO559.out; subst eo66; obtain ⟨hcz67_0, hcz67_1, hcz67_2, hcz67_3, hcz67_4, hcz67_5, hfz67_0, hfz67_1, hfz67_2, hfz67_3, hfz67_4, hfz67_5⟩ := Ke6_ BK544.out))
      go_roundg kj25
      case measure => have := HK1.out; have := HJ25.out; omega
      case rel => exact ⟨(IntKind.u64.wrap (x9_1 + 1)), (t555), (t556), (y557), (.slice Ao66 y557.length co66), (by first | rfl | (simp; done) | (simp [*]; done)), H', ⟨by have := HK1.out; have := HJ25.out; omega⟩, ⟨by (with_reducible repeat (first | apply Kd.R_alloc | apply Kd.R_drewN | apply Kd.R_drew)); exact Kd.R_mono (Kd.R_far (p := ⟨gb544, 5, none⟩) (Kd.R_types HO559.out BK544.out (by decide)) (fun _ hk => hk.2) (.slice Ao66 y557.length co66)) (fun _ hk => trivial)⟩, ⟨by exact K1b_ BK530 NB530_544⟩, ⟨by exact K1b_ BK538 NB538_544⟩, ⟨by exact K1b_ BK539 NB539_544⟩, ⟨by exact K1b_ BK543 NB543_544⟩, ⟨by refine Kv_ ?_; refine blk_put (cs := #[.int .u64 t531, .int .u64 t532, .int .u64 t533, .int .u64 t534, .int .i64 t535, u545005]) ?_ 5 _ rfl; exact Kq_ BK544⟩, ⟨by repeat (first | (with_reducible first | exact HB.out | apply below_alloc | apply pw_below_drewN | apply below_drew1 | refine below_set ?_ GE530.out | refine below_set ?_ GE538.out | refine below_set ?_ GE539.out | refine below_set ?_ GE543.out | refine below_set ?_ GE544.out | refine below_set ?_ GE547.out) | exact HB.out)⟩⟩
     rw [if_neg c38] at H
     have c38b0 : (t554 == 1) = false := beq_eq_false_iff_ne.mpr c38
     (try simp only [c38b0] at H)
     have c38b1 : (t554 != 1) = true := bne_iff_ne.mpr c38
     replace H := Option.bind_eq_some_iff.mp H
     obtain ⟨⟨t560, t561, t562⟩, A680, H⟩ := H
     replace H : (if x138_1.length < 2513169434916 then (tenementref08_Read.l0 kj25 a0 t540 (IntKind.u64.wrap (x9_1 + 1)) t561 t562 t531 t532 t533 t534 t535 (x138_1 ++ [(⟨t548, t551, t560, false⟩ : S38)])) else (none)) = some (r1, r2, r3, r4, r5, r6, r7) := H
     have A68 := Aside0.mk A680
     clear A680
     by_cases c69 : x138_1.length < 2513169434916
     rotate_left
     ·rw [if_neg c69] at H
      exact absurd H (by simp)
     rw [if_pos c69] at H
     have LMc69 := Aside0.mk c69
     clear c69
     obtain ⟨y563, hy563⟩ : ∃ y_ : List (S38), y_ = (x138_1 ++ [(⟨t548, t551, t560, false⟩ : S38)]) := ⟨_, rfl⟩
     replace H : (tenementref08_Read.l0 kj25 a0 t540 (IntKind.u64.wrap (x9_1 + 1)) t561 t562 t531 t532 t533 t534 t535 y563) = some (r1, r2, r3, r4, r5, r6, r7) := by first | (rw [hy563]; with_reducible exact H) | (have H2_ := (Option.bind_some _ _).symm.trans H; rw [hy563]; with_reducible exact H2_) | (have H2_ := (Option.bind_some _ _).symm.trans H; with_reducible exact H2_) | with_reducible exact H | (rw [hy563]; exact H) | exact H
     have Ny563 := Aside0.mk hy563
     clear hy563
     have H' := Aside0.mk H
     clear H
     go_wp2_with (first | ((with_reducible refine gate_dst (N := 10) rfl ?_); refine Ka_ 10 #[.string (⟨#[]⟩ : ByteArray), .string (⟨#[]⟩ : ByteArray), .string (⟨#[]⟩ : ByteArray), .bool false] 38 ?_; intro gb547 hg w70 hbox hb; have BK547 := Aside0.mk (hbox); have GW547 := Kw_ HB hg; have GE547 := GW547; have NB530_547 := Kl_ BK530 hg; have NB547_530 := Kr_ BK530 hg; have NB538_547 := Kl_ BK538 hg; have NB547_538 := Kr_ BK538 hg; have NB539_547 := Kl_ BK539 hg; have NB547_539 := Kr_ BK539 hg; have NB543_547 := Kl_ BK543 hg; have NB547_543 := Kr_ BK543 hg; have NB544_547 := Kl_ BK544 hg; have NB547_544 := Kr_ BK544 hg; replace HO_138 := Aside0.mk (Kd.R_below (Kd.R_elderB (Ku_ HO_138) gb547 (Nat.le_of_eq hg.symm)) hb); replace BK530 := Kb_ BK530 hb; replace BK538 := Kb_ BK538 hb; replace BK539 := Kb_ BK539 hb; replace BK543 := Kb_ BK543 hb; replace BK544 := Kb_ BK544 hb; replace HB := Ks_ HB hb; clear hb hbox hg; have hnb71 := NB547_530.out; have hnc71 := NB530_547.out; have hnb72 := NB547_538.out; have hnc72 := NB538_547.out; have hnb73 := NB547_539.out; have hnc73 := NB539_547.out; have hnb74 := NB547_543.out; have hnc74 := NB543_547.out; have hnb75 := NB547_544.out; have hnc75 := NB544_547.out; obtain ⟨hcz76_0, hcz76_1, hcz76_2, hcz76_3, hfz76_0, hfz76_1, hfz76_2, hfz76_3⟩ := Ke4_ BK547.out; have hnb77 := NB543_530.out; have hnc77 := NB530_543.out; have hnb78 := NB543_538.out; have hnc78 := NB538_543.out; have hnb79 := NB543_539.out; have hnc79 := NB539_543.out; have hnb80 := NB543_544.out; have hnc80 := NB544_543.out; obtain ⟨hcz81_0, hcz81_1, hfz81_0, hfz81_1⟩ := Ke2_ BK543.out) | ((with_reducible refine gate_callee (f := 58) rfl ?_); refine Kg_ (some 44) rfl rfl Try.func58 (by kernel_rfl) rfl #[.agg #[.string x140_1, .bool x139_1], .int .i64 16] rfl ?_; (with_reducible refine (tenementref02_Reader_Text.calls kj25 x140_1 x139_1 16 t548 t549 t550 _ A35.out).mono ?_); rintro e w82 ⟨rfl, hb⟩; refine ⟨_, rfl, ?_⟩; replace HO_138 := Aside0.mk (Kd.R_below (by (with_reducible repeat (first | apply Kd.R_alloc | apply Kd.R_drewN | apply Kd.R_drew)); exact (Kd.R_mono (Kd.R_far (p := ⟨gb547, 3, none⟩) (Kd.R_far (p := ⟨gb547, 2, none⟩) (Kd.R_far (p := ⟨gb547, 1, none⟩) (Kd.R_far (p := ⟨gb547, 0, none⟩) (Kd.R_mono HO_138.out (fun k_ hk => (⟨hk, hk.2⟩ : _ ∧ k_ ≠ gb547))) (fun _ hk => hk.2) (.string (⟨#[]⟩ : ByteArray))) (fun _ hk => hk.2) (.string (⟨#[]⟩ : ByteArray))) (fun _ hk => hk.2) (.string (⟨#[]⟩ : ByteArray))) (fun _ hk => hk.2) (.bool false)) (fun _ h_ => h_.1))) hb); replace BK530 := Kf_ BK530 NB530_547 hb; replace BK538 := Kf_ BK538 NB538_547 hb; replace BK539 := Kf_ BK539 NB539_547 hb; replace BK543 := Kf_ BK543 NB543_547 hb; replace BK544 := Kf_ BK544 NB544_547 hb; replace BK547 := Aside0.mk (blk_below (g := gb547) (o := .cells #[.string (⟨#[]⟩ : ByteArray), .string (⟨#[]⟩ : ByteArray), .string (⟨#[]⟩ : ByteArray), .bool false] 38 (0, 0)) (by refine Kv_ ?_; refine blk_put (cs := #[.string (⟨#[]⟩ : ByteArray), .string (⟨#[]⟩ : ByteArray), .string (⟨#[]⟩ : ByteArray), .bool false]) ?_ 3 _ rfl; refine Kv_ ?_; refine blk_put (cs := #[.string (⟨#[]⟩ : ByteArray), .string (⟨#[]⟩ : ByteArray), .string (⟨#[]⟩ : ByteArray), .bool false]) ?_ 2 _ rfl; refine Kv_ ?_; refine blk_put (cs := #[.string (⟨#[]⟩ : ByteArray), .string (⟨#[]⟩ : ByteArray), .string (⟨#[]⟩ : ByteArray), .bool false]) ?_ 1 _ rfl; refine Kv_ ?_; refine blk_put (cs := #[.string (⟨#[]⟩ : ByteArray), .string (⟨#[]⟩ : ByteArray), .string (⟨#[]⟩ : ByteArray), .bool false]) ?_ 0 _ rfl; exact Kq_ BK547) hb); replace HB := Kt_ HB GE547 hb; (try clear hb); (try clear hb2); (try clear hk); (try clear hi); obtain ⟨hcz83_0, hcz83_1, hcz83_2, hcz83_3, hfz83_0, hfz83_1, hfz83_2, hfz83_3⟩ := Ke4_ BK547.out; obtain ⟨hcz84_0, hcz84_1, hfz84_0, hfz84_1⟩ := Ke2_ BK543.out) | ((with_reducible refine gate_callee (f := 58) rfl ?_); refine Kg_ (some 50) rfl rfl Try.func58 (by kernel_rfl) rfl #[.agg #[.string t549, .bool t550], .int .i64 16] rfl ?_; (with_reducible refine (tenementref02_Reader_Text.calls kj25 t549 t550 16 t551 t552 t553 _ A36.out).mono ?_); rintro e w85 ⟨rfl, hb⟩; refine ⟨_, rfl, ?_⟩; replace HO_138 := Aside0.mk (Kd.R_below (by (with_reducible repeat (first | apply Kd.R_alloc | apply Kd.R_drewN | apply Kd.R_drew)); exact (Kd.R_mono (Kd.R_mono (Kd.R_far (p := ⟨gb543, 1, none⟩) (Kd.R_far (p := ⟨gb543, 0, none⟩) (Kd.R_far (p := ⟨gb547, 0, none⟩) (Kd.R_types (Kd.R_mono HO_138.out (fun k_ hk => (⟨hk, hk.2⟩ : _ ∧ k_ ≠ gb547))) BK543.out (by decide)) (fun _ hk => hk.1.2) (.string t548)) (fun _ hk => hk.2) (.string t549)) (fun _ hk => hk.2) (.bool t550)) (fun _ h_ => h_.1)) (fun _ h_ => h_.1))) hb); replace BK530 := Aside0.mk (blk_below (g := gb530) (o := .cells #[.int .u64 0, .int .u64 0, .int .u64 0, .int .u64 0, .int .i64 0, .slice none 0 0] 52 (0, 0)) (K2b_ BK530 NB530_543 NB530_547) hb); replace BK538 := Aside0.mk (blk_below (g := gb538) (o := .cells #[.int .u64 t531, .int .u64 t532, .int .u64 t533, .int .u64 t534, .int .i64 t535] 50 (0, 0)) (K2b_ BK538 NB538_543 NB538_547) hb); replace BK539 := Aside0.mk (blk_below (g := gb539) (o := .cells #[.string t536, .bool t537] 104 (0, 0)) (K2b_ BK539 NB539_543 NB539_547) hb); replace BK543 := Aside0.mk (blk_below (g := gb543) (o := .cells #[.string t549, .bool t550] 104 (0, 0)) (by refine Kv_ ?_; refine blk_put (cs := #[.string t549, .bool x139_1]) ?_ 1 _ rfl; refine Kv_ ?_; refine blk_put (cs := #[.string x140_1, .bool x139_1]) ?_ 0 _ rfl; exact K1b_ BK543 NB543_547) hb); replace BK544 := Aside0.mk (blk_below (g := gb544) (o := .cells #[.int .u64 t531, .int .u64 t532, .int .u64 t533, .int .u64 t534, .int .i64 t535, u545005] 52 (0, 0)) (K2b_ BK544 NB544_543 NB544_547) hb); replace BK547 := Aside0.mk (blk_below (g := gb547) (o := .cells #[.string t548, .string (⟨#[]⟩ : ByteArray), .string (⟨#[]⟩ : ByteArray), .bool false] 38 (0, 0)) (by (repeat (first | (with_reducible first | refine blk_drewN ?_ _ | refine blk_drew ?_ | refine blk_alloc ?_ _) | refine blk_far ?_ NB547_543.out _)); refine blk_put (cs := #[.string (⟨#[]⟩ : ByteArray), .string (⟨#[]⟩ : ByteArray), .string (⟨#[]⟩ : ByteArray), .bool false]) ?_ 0 _ rfl; exact Kq_ BK547) hb); replace HB := Aside0.mk (below_step (by repeat (first | (with_reducible first | exact HB.out | apply below_alloc | apply pw_below_drewN | apply below_drew1 | refine below_set ?_ GE530.out | refine below_set ?_ GE538.out | refine below_set ?_ GE539.out | refine below_set ?_ GE543.out | refine below_set ?_ GE544.out | refine below_set ?_ GE547.out) | exact HB.out)) hb); (try clear hb); (try clear hb2); (try clear hk); (try clear hi); obtain ⟨hcz86_0, hcz86_1, hcz86_2, hcz86_3, hfz86_0, hfz86_1, hfz86_2, hfz86_3⟩ := Ke4_ BK547.out; obtain ⟨hcz87_0, hcz87_1, hfz87_0, hfz87_1⟩ := Ke2_ BK543.out) | ((with_reducible refine gate_callee (f := 57) rfl ?_); refine Kg_ (some 56) rfl rfl Try.func57 (by kernel_rfl) rfl #[.agg #[.string t552, .bool t553], .int .i64 1] rfl ?_; (with_reducible refine (tenementref02_Reader_Number.calls kj25 t552 t553 1 t554 t555 t556 _ A37.out).mono ?_); rintro e w88 ⟨rfl, hb⟩; refine ⟨_, rfl, ?_⟩; replace HO_138 := Aside0.mk (Kd.R_below (by (with_reducible repeat (first | apply Kd.R_alloc | apply Kd.R_drewN | apply Kd.R_drew)); exact (Kd.R_mono (Kd.R_mono (Kd.R_far (p := ⟨gb543, 1, none⟩) (Kd.R_far (p := ⟨gb543, 0, none⟩) (Kd.R_far (p := ⟨gb547, 1, none⟩) (Kd.R_types (Kd.R_mono HO_138.out (fun k_ hk => (⟨hk, hk.2⟩ : _ ∧ k_ ≠ gb547))) BK543.out (by decide)) (fun _ hk => hk.1.2) (.string t551)) (fun _ hk => hk.2) (.string t552)) (fun _ hk => hk.2) (.bool t553)) (fun _ h_ => h_.1)) (fun _ h_ => h_.1))) hb); replace BK530 := Aside0.mk (blk_below (g := gb530) (o := .cells #[.int .u64 0, .int .u64 0, .int .u64 0, .int .u64 0, .int .i64 0, .slice none 0 0] 52 (0, 0)) (K2b_ BK530 NB530_543 NB530_547) hb); replace BK538 := Aside0.mk (blk_below (g := gb538) (o := .cells #[.int .u64 t531, .int .u64 t532, .int .u64 t533, .int .u64 t534, .int .i64 t535] 50 (0, 0)) (K2b_ BK538 NB538_543 NB538_547) hb); replace BK539 := Aside0.mk (blk_below (g := gb539) (o := .cells #[.string t536, .bool t537] 104 (0, 0)) (K2b_ BK539 NB539_543 NB539_547) hb); replace BK543 := Aside0.mk (blk_below (g := gb543) (o := .cells #[.string t552, .bool t553] 104 (0, 0)) (by refine Kv_ ?_; refine blk_put (cs := #[.string t552, .bool t550]) ?_ 1 _ rfl; refine Kv_ ?_; refine blk_put (cs := #[.string t549, .bool t550]) ?_ 0 _ rfl; exact K1b_ BK543 NB543_547) hb); replace BK544 := Aside0.mk (blk_below (g := gb544) (o := .cells #[.int .u64 t531, .int .u64 t532, .int .u64 t533, .int .u64 t534, .int .i64 t535, u545005] 52 (0, 0)) (K2b_ BK544 NB544_543 NB544_547) hb); replace BK547 := Aside0.mk (blk_below (g := gb547) (o := .cells #[.string t548, .string t551, .string (⟨#[]⟩ : ByteArray), .bool false] 38 (0, 0)) (by (repeat (first | (with_reducible first | refine blk_drewN ?_ _ | refine blk_drew ?_ | refine blk_alloc ?_ _) | refine blk_far ?_ NB547_543.out _)); refine blk_put (cs := #[.string t548, .string (⟨#[]⟩ : ByteArray), .string (⟨#[]⟩ : ByteArray), .bool false]) ?_ 1 _ rfl; exact Kq_ BK547) hb); replace HB := Aside0.mk (below_step (by repeat (first | (with_reducible first | exact HB.out | apply below_alloc | apply pw_below_drewN | apply below_drew1 | refine below_set ?_ GE530.out | refine below_set ?_ GE538.out | refine below_set ?_ GE539.out | refine below_set ?_ GE543.out | refine below_set ?_ GE544.out | refine below_set ?_ GE547.out) | exact HB.out)) hb); (try clear hb); (try clear hb2); (try clear hk); (try clear hi); obtain ⟨hcz89_0, hcz89_1, hfz89_0, hfz89_1⟩ := Ke2_ BK543.out; obtain ⟨hcz90_0, hcz90_1, hcz90_2, hcz90_3, hfz90_0, hfz90_1, hfz90_2, hfz90_3⟩ := Ke4_ BK547.out) | ((with_reducible refine gate_callee (f := 58) rfl ?_); refine Kg_ (some 67) rfl rfl Try.func58 (by kernel_rfl) rfl #[.agg #[.string t555, .bool t556], .int .i64 32] rfl ?_; (with_reducible refine (tenementref02_Reader_Text.calls kj25 t555 t556 32 t560 t561 t562 _ A68.out).mono ?_); rintro e w91 ⟨rfl, hb⟩; refine ⟨_, rfl, ?_⟩; replace HO_138 := Aside0.mk (Kd.R_below (by (with_reducible repeat (first | apply Kd.R_alloc | apply Kd.R_drewN | apply Kd.R_drew)); exact (Kd.R_mono (Kd.R_mono (Kd.R_far (p := ⟨gb547, 3, none⟩) (Kd.R_far (p := ⟨gb543, 1, none⟩) (Kd.R_far (p := ⟨gb543, 0, none⟩) (Kd.R_mono (Kd.R_types HO_138.out BK543.out (by decide)) (fun k_ hk => (⟨hk, hk.1.2⟩ : _ ∧ k_ ≠ gb547))) (fun _ hk => hk.1.2) (.string t555)) (fun _ hk => hk.1.2) (.bool t556)) (fun _ hk => hk.2) (.bool false)) (fun _ h_ => h_.1)) (fun _ h_ => h_.1))) hb); replace BK530 := Aside0.mk (blk_below (g := gb530) (o := .cells #[.int .u64 0, .int .u64 0, .int .u64 0, .int .u64 0, .int .i64 0, .slice none 0 0] 52 (0, 0)) (K2b_ BK530 NB530_547 NB530_543) hb); replace BK538 := Aside0.mk (blk_below (g := gb538) (o := .cells #[.int .u64 t531, .int .u64 t532, .int .u64 t533, .int .u64 t534, .int .i64 t535] 50 (0, 0)) (K2b_ BK538 NB538_547 NB538_543) hb); replace BK539 := Aside0.mk (blk_below (g := gb539) (o := .cells #[.string t536, .bool t537] 104 (0, 0)) (K2b_ BK539 NB539_547 NB539_543) hb); replace BK543 := Aside0.mk (blk_below (g := gb543) (o := .cells #[.string t555, .bool t556] 104 (0, 0)) (by (repeat (first | (with_reducible first | refine blk_drewN ?_ _ | refine blk_drew ?_ | refine blk_alloc ?_ _) | refine blk_far ?_ NB543_547.out _)); refine blk_put (cs := #[.string t555, .bool t553]) ?_ 1 _ rfl; refine Kv_ ?_; refine blk_put (cs := #[.string t552, .bool t553]) ?_ 0 _ rfl; exact Kq_ BK543) hb); replace BK544 := Aside0.mk (blk_below (g := gb544) (o := .cells #[.int .u64 t531, .int .u64 t532, .int .u64 t533, .int .u64 t534, .int .i64 t535, u545005] 52 (0, 0)) (K2b_ BK544 NB544_547 NB544_543) hb); replace BK547 := Aside0.mk (blk_below (g := gb547) (o := .cells #[.string t548, .string t551, .string (⟨#[]⟩ : ByteArray), .bool false] 38 (0, 0)) (by refine Kv_ ?_; refine blk_put (cs := #[.string t548, .string t551, .string (⟨#[]⟩ : ByteArray), .bool false]) ?_ 3 _ rfl; exact K1b_ BK547 NB547_543) hb); replace HB := Aside0.mk (below_step (by repeat (first | (with_reducible first | exact HB.out | apply below_alloc | apply pw_below_drewN | apply below_drew1 | refine below_set ?_ GE530.out | refine below_set ?_ GE538.out | refine below_set ?_ GE539.out | refine below_set ?_ GE543.out | refine below_set ?_ GE544.out | refine below_set ?_ GE547.out) | exact HB.out)) hb); (try clear hb); (try clear hb2); (try clear hk); (try clear hi); obtain ⟨hcz92_0, hcz92_1, hcz92_2, hcz92_3, hfz92_0, hfz92_1, hfz92_2, hfz92_3⟩ := Ke4_ BK547.out; obtain ⟨hcz93_0, hcz93_1, hfz93_0, hfz93_1⟩ := Ke2_ BK543.out; have hnb94 := NB544_530.out; have hnc94 := NB530_544.out; have hnb95 := NB544_538.out; have hnc95 := NB538_544.out; have hnb96 := NB544_539.out; have hnc96 := NB539_544.out; obtain ⟨hcz97_0, hcz97_1, hcz97_2, hcz97_3, hcz97_4, hcz97_5, hfz97_0, hfz97_1, hfz97_2, hfz97_3, hfz97_4, hfz97_5⟩ := Ke6_ BK544.out) | ((with_reducible refine gate_builtin (b := .append) (xs := #[.tmp 72, .tmp 74]) rfl ?_); at_builtin; refine Kd.R_append k38 (w0 := w) w.heap.size rfl (.tmp 72) (.tmp 74) 39 38 (.agg #[(.string ⟨#[]⟩), (.string ⟨#[]⟩), (.string ⟨#[]⟩), (.bool false)]) 56 rfl Try.underlying39 info38 rfl (by decide) (by omega) u545005 x138_1 (⟨t548, t551, t560, false⟩ : S38) [.string t548, .string t551, .string t560, .bool false] (fun k_ => k_ ≠ gb547) (fun _ => False) rfl (by first | (go_simp; done) | (go_simp; rfl)) ?aP (fun _ hk => hk.elim) ?aF ?aO ?aB ?aS ?aL ?_; (case aP => exact k38_mkM _ _ _ (⟨t548, t551, t560, false⟩ : S38)); (case aB => exact (by repeat (first | (with_reducible first | exact HB.out | apply below_alloc | apply pw_below_drewN | apply below_drew1 | refine below_set ?_ GE530.out | refine below_set ?_ GE538.out | refine below_set ?_ GE539.out | refine below_set ?_ GE543.out | refine below_set ?_ GE544.out | refine below_set ?_ GE547.out) | exact HB.out))); (case aF => exact (fun k_ hk => Kd.freshB (g := gb547) (o := .cells #[.string t548, .string t551, .string t560, .bool false] 38 (0, 0)) (by (repeat (first | (with_reducible first | refine blk_drewN ?_ _ | refine blk_drew ?_ | refine blk_alloc ?_ _) | refine blk_far ?_ NB547_543.out _)); refine blk_put (cs := #[.string t548, .string t551, .string (⟨#[]⟩ : ByteArray), .bool false]) ?_ 2 _ rfl; exact Kq_ BK547) k_ hk)); (case aO => exact (by (with_reducible repeat (first | apply Kd.R_alloc | apply Kd.R_drewN | apply Kd.R_drew)); exact Kd.R_mono (Kd.R_far (p := ⟨gb543, 1, none⟩) (Kd.R_far (p := ⟨gb543, 0, none⟩) (Kd.R_far (p := ⟨gb547, 2, none⟩) (Kd.R_types (Kd.R_mono HO_138.out (fun k_ hk => (⟨hk, hk.2⟩ : _ ∧ k_ ≠ gb547))) BK543.out (by decide)) (fun _ hk => hk.1.2) (.string t560)) (fun _ hk => hk.2) (.string t561)) (fun _ hk => hk.2) (.bool t562)) (fun _ hk => hk.1.1.2))); (case aS => exact (below_size (by repeat (first | (with_reducible first | exact HB.out | apply below_alloc | apply pw_below_drewN | apply below_drew1 | refine below_set ?_ GE530.out | refine below_set ?_ GE538.out | refine below_set ?_ GE539.out | refine below_set ?_ GE543.out | refine below_set ?_ GE544.out | refine below_set ?_ GE547.out) | exact HB.out)))); (case aL => have := LMc69.out; omega); intro v564 w98 ho hb hg hat; rw [← Ny563.out] at ho; have HO565 := Aside0.mk (ho); replace BK530 := Aside0.mk (blk_grown (g := gb530) (o := .cells #[.int .u64 0, .int .u64 0, .int .u64 0, .int .u64 0, .int .i64 0, .slice none 0 0] 52 (0, 0)) (K2b_ BK530 NB530_543 NB530_547) hg (Kd.R_ne HO_138.out BK530.out (by decide))); replace BK538 := Aside0.mk (blk_grown (g := gb538) (o := .cells #[.int .u64 t531, .int .u64 t532, .int .u64 t533, .int .u64 t534, .int .i64 t535] 50 (0, 0)) (K2b_ BK538 NB538_543 NB538_547) hg (Kd.R_ne HO_138.out BK538.out (by decide))); replace BK539 := Aside0.mk (blk_grown (g := gb539) (o := .cells #[.string t536, .bool t537] 104 (0, 0)) (K2b_ BK539 NB539_543 NB539_547) hg (Kd.R_ne HO_138.out BK539.out (by decide))); replace BK543 := Aside0.mk (blk_grown (g := gb543) (o := .cells #[.string t561, .bool t562] 104 (0, 0)) (by refine Kv_ ?_; refine blk_put (cs := #[.string t561, .bool t556]) ?_ 1 _ rfl; refine Kv_ ?_; refine blk_put (cs := #[.string t555, .bool t556]) ?_ 0 _ rfl; exact K1b_ BK543 NB543_547) hg (Kd.R_ne HO_138.out BK543.out (by decide))); replace BK544 := Aside0.mk (blk_grown (g := gb544) (o := .cells #[.int .u64 t531, .int .u64 t532, .int .u64 t533, .int .u64 t534, .int .i64 t535, u545005] 52 (0, 0)) (K2b_ BK544 NB544_543 NB544_547) hg (Kd.R_ne HO_138.out BK544.out (by decide))); replace BK547 := Aside0.mk (blk_grown (g := gb547) (o := .cells #[.string t548, .string t551, .string t560, .bool false] 38 (0, 0)) (by (repeat (first | (with_reducible first | refine blk_drewN ?_ _ | refine blk_drew ?_ | refine blk_alloc ?_ _) | refine blk_far ?_ NB547_543.out _)); refine blk_put (cs := #[.string t548, .string t551, .string (⟨#[]⟩ : ByteArray), .bool false]) ?_ 2 _ rfl; exact Kq_ BK547) hg (Kd.R_away HO_138.out (fun _ hk => hk.2))); replace HB := Aside0.mk (hb); clear HO_138; clear ho hb hg hat; obtain ⟨Ao99, co99, eo99⟩ := Kd.R_slice HO565.out; subst eo99; obtain ⟨hcz100_0, hcz100_1, hcz100_2, hcz100_3, hcz100_4, hcz100_5, hfz100_0, hfz100_1, hfz100_2, hfz100_3, hfz100_4, hfz100_5⟩ := Ke6_ BK544.out))
     go_roundg kj25
     case measure => have := HK1.out; have := HJ25.out; omega
     case rel => exact ⟨(IntKind.u64.wrap (x9_1 + 1)), (t561), (t562), (y563), (.slice Ao99 y563.length co99), (by first | rfl | (simp; done) | (simp [*]; done)), H', ⟨by have := HK1.out; have := HJ25.out; omega⟩, ⟨by (with_reducible repeat (first | apply Kd.R_alloc | apply Kd.R_drewN | apply Kd.R_drew)); exact Kd.R_mono (Kd.R_far (p := ⟨gb544, 5, none⟩) (Kd.R_types HO565.out BK544.out (by decide)) (fun _ hk => hk.2) (.slice Ao99 y563.length co99)) (fun _ hk => trivial)⟩, ⟨by exact K1b_ BK530 NB530_544⟩, ⟨by exact K1b_ BK538 NB538_544⟩, ⟨by exact K1b_ BK539 NB539_544⟩, ⟨by exact K1b_ BK543 NB543_544⟩, ⟨by refine Kv_ ?_; refine blk_put (cs := #[.int .u64 t531, .int .u64 t532, .int .u64 t533, .int .u64 t534, .int .i64 t535, u545005]) ?_ 5 _ rfl; exact Kq_ BK544⟩, ⟨by repeat (first | (with_reducible first | exact HB.out | apply below_alloc | apply pw_below_drewN | apply below_drew1 | refine below_set ?_ GE530.out | refine below_set ?_ GE538.out | refine below_set ?_ GE539.out | refine below_set ?_ GE543.out | refine below_set ?_ GE544.out | refine below_set ?_ GE547.out) | exact HB.out)⟩⟩
end Go.Proofs.Ytoogchgoiciggaa.Q
