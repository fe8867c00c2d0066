import Derived.Test.YtoagfdpgnfinhaaGStreamOuts2
import Derived.Maps.OwnSet
import Derived.DeepKeys4
namespace Go.Proofs.Ytoagfdpgnfinhaa.Q
open Go.RowKit Go.Proofs.YtoagfdpgnfinhaaW.PrintWords Go.Proofs.YtoagfdpgnfinhaaW.PrintLast Go.Proofs.YtoagfdpgnfinhaaW.PrintMore
attribute [local go_sem] max2_int min2_int max_two min_two max_three min_three max_four min_four   -- for this text's walks alone
set_option linter.unusedVariables false
set_option linter.unusedSimpArgs false
attribute [local go_sem] ixA28_0 ixA28_1 ixA28_2 ixA28_3   -- for this text's walks alone
attribute [local go_sem high] eqA28
def vec_Leq.f (a0_0 : Int) (a0_1 : Int) (a0_2 : Int) (a0_3 : Int) (a1_0 : Int) (a1_1 : Int) (a1_2 : Int) (a1_3 : Int) : Option (Bool) := (vec_Join.f a0_0 a0_1 a0_2 a0_3 a1_0 a1_1 a1_2 a1_3).bind fun bt113 => (some (bt113.1 == a1_0 && (bt113.2.1 == a1_1 && (bt113.2.2.1 == a1_2 && (bt113.2.2.2 == a1_3)))))
set_option maxHeartbeats 8000000 in
set_option maxRecDepth 100000 in
theorem vec_Leq.calls (a0_0 : Int) (a0_1 : Int) (a0_2 : Int) (a0_3 : Int) (a1_0 : Int) (a1_1 : Int) (a1_2 : Int) (a1_3 : Int) (r : Bool) (w : World) (h : vec_Leq.f a0_0 a0_1 a0_2 a0_3 a1_0 a1_1 a1_2 a1_3 = some r) :
  Calls Try.prog 49 #[.agg #[.int .u64 a0_0, .int .u64 a0_1, .int .u64 a0_2, .int .u64 a0_3], .agg #[.int .u64 a1_0, .int .u64 a1_1, .int .u64 a1_2, .int .u64 a1_3]] w fun e w' => e = .returned (.bool r) ∧ Below w.heap.size w w' := by
 have hu28 := Try.underlying28
 have HB := Aside0.mk (Below.refl w.heap.size w)
 have H : ((vec_Join.f a0_0 a0_1 a0_2 a0_3 a1_0 a1_1 a1_2 a1_3).bind fun bt113 => (some (bt113.1 == a1_0 && (bt113.2.1 == a1_1 && (bt113.2.2.1 == a1_2 && (bt113.2.2.2 == a1_3)))))) = some r := h
 clear h
 replace H := Option.bind_eq_some_iff.mp H
 obtain ⟨⟨t113, t114, t115, t116⟩, A30, H⟩ := H
 replace H : (some (t113 == a1_0 && (t114 == a1_1 && (t115 == a1_2 && (t116 == a1_3))))) = some r := H
 have A3 := Aside0.mk A30
 clear A30
 obtain rfl := Option.some.inj H
 go_enter Try.func49, Try.ntmps49
 try go_wp2_with (first | ((with_reducible refine gate_dst (N := 2) rfl ?_); refine Ka_ 2 #[.int .u64 a0_0, .int .u64 a0_1, .int .u64 a0_2, .int .u64 a0_3] 28 ?_; intro gb111 hg w4 hbox hb; have BK111 := Aside0.mk (hbox); have GW111 := Kw_ HB hg; have GE111 := GW111; replace HB := Ks_ HB hb; clear hb hbox hg) | ((with_reducible refine gate_dst (N := 3) rfl ?_); refine Ka_ 3 #[.int .u64 a1_0, .int .u64 a1_1, .int .u64 a1_2, .int .u64 a1_3] 28 ?_; intro gb112 hg w5 hbox hb; have BK112 := Aside0.mk (hbox); have GW112 := Kw_ HB hg; have GE112 := GW112; have NB111_112 := Kl_ BK111 hg; have NB112_111 := Kr_ BK111 hg; replace BK111 := Kb_ BK111 hb; replace HB := Ks_ HB hb; clear hb hbox hg))
 replace BK111 := Kd_ BK111
 replace BK112 := Kd_ BK112
 replace HB := Aside0.mk (below_drew1 HB.out)
 refine start_ (n := 6) (S := fun w' => w'.cell? ⟨gb111, 0, none⟩ = some (.int .u64 a0_0) ∧ w'.cell? ⟨gb111, 1, none⟩ = some (.int .u64 a0_1) ∧ w'.cell? ⟨gb111, 2, none⟩ = some (.int .u64 a0_2) ∧ w'.cell? ⟨gb111, 3, none⟩ = some (.int .u64 a0_3) ∧ w'.cell? ⟨gb112, 0, none⟩ = some (.int .u64 a1_0) ∧ w'.cell? ⟨gb112, 1, none⟩ = some (.int .u64 a1_1) ∧ w'.cell? ⟨gb112, 2, none⟩ = some (.int .u64 a1_2) ∧ w'.cell? ⟨gb112, 3, none⟩ = some (.int .u64 a1_3)) (ds := []) (mB_ 6 0) (by kernel_rfl) rfl rfl ⟨Km_ BK111 0, Km_ BK111 1, Km_ BK111 2, Km_ BK111 3, Km_ BK112 0, Km_ BK112 1, Km_ BK112 2, Km_ BK112 3⟩ (fun hHeld => ?_)
 generalize w5.drew = w6 at BK111 BK112 HB hHeld ⊢
 refine Ko_ 0 5 (mB_ 6 1) (by kernel_rfl) hHeld ?_
 refine Ko_ 1 6 (mB_ 6 3) (by kernel_rfl) hHeld ?_
 refine Ko_ 3 8 (mB_ 6 11) (by kernel_rfl) hHeld ?_
 refine one_ (i := 2) (N := some 7) (mB_ 6 15) rfl rfl (by kernel_rfl) (by decide) (fun K hK => ?_)
 refine goes_ Try.func45 (by kernel_rfl) rfl #[.agg #[.int .u64 a0_0, .int .u64 a0_1, .int .u64 a0_2, .int .u64 a0_3], .agg #[.int .u64 a1_0, .int .u64 a1_1, .int .u64 a1_2, .int .u64 a1_3]] (by rfl) rfl rfl (by (try simp only [List.map_toArray, List.map_cons, List.map_nil]); first | done | rfl | (simp only [List.length_drop, List.length_take]; rfl)) ?_
 with_reducible refine (vec_Join.calls a0_0 a0_1 a0_2 a0_3 a1_0 a1_1 a1_2 a1_3 t113 t114 t115 t116 _ A3.out).mono ?_
 rintro e w7 ⟨rfl, hb⟩
 refine ⟨_, rfl, ?_⟩
 replace BK111 := Kb_ BK111 hb
 replace BK112 := Kb_ BK112 hb
 replace HB := Ks_ HB hb
 (try clear hb)
 (try clear hb2)
 (try clear hk)
 (try clear hi)
 refine hK.out _ _ ⟨Km_ BK111 0, Km_ BK111 1, Km_ BK111 2, Km_ BK111 3, Km_ BK112 0, Km_ BK112 1, Km_ BK112 2, Km_ BK112 3⟩ (fun hHeld => ?_)
 clear hK K
 refine Kn_ 7 ?_
 refine Kp_ 4 9 (mB_ 6 31) (by kernel_rfl) ?_
 refine Kp_ 5 4 (mB_ 6 63) (by kernel_rfl) ?_
 refine done_ (by kernel_rfl) ?_
 try go_wp2
 go_ret
 exact ⟨Kh_, K2a_ HB GE111 GE112⟩
end Go.Proofs.Ytoagfdpgnfinhaa.Q

namespace Go.Proofs.Ytoagfdpgnfinhaa.Q
open Go.RowKit Go.Proofs.YtoagfdpgnfinhaaW.PrintWords Go.Proofs.YtoagfdpgnfinhaaW.PrintLast Go.Proofs.YtoagfdpgnfinhaaW.PrintMore
attribute [local go_sem] max2_int min2_int max_two min_two max_three min_three max_four min_four   -- for this text's walks alone
set_option linter.unusedVariables false
set_option linter.unusedSimpArgs false
def vec_Right.f (a0_0 : Int) (a0_1 : Int) (a0_2 : Int) (a0_3 : Int) : Option (Bool) := (vec_Leq.f a0_0 a0_1 a0_2 a0_3 1152921504606846976 1152921504606846976 1152921504606846976 1152921504606846976).bind fun t118 => (some t118)
set_option maxHeartbeats 8000000 in
set_option maxRecDepth 100000 in
theorem vec_Right.calls (a0_0 : Int) (a0_1 : Int) (a0_2 : Int) (a0_3 : Int) (r : Bool) (w : World) (h : vec_Right.f a0_0 a0_1 a0_2 a0_3 = some r) :
  Calls Try.prog 92 #[.agg #[.int .u64 a0_0, .int .u64 a0_1, .int .u64 a0_2, .int .u64 a0_3]] w fun e w' => e = .returned (.bool r) ∧ Below w.heap.size w w' := by
 have hu28 := Try.underlying28
 have HB := Aside0.mk (Below.refl w.heap.size w)
 have H : ((vec_Leq.f a0_0 a0_1 a0_2 a0_3 1152921504606846976 1152921504606846976 1152921504606846976 1152921504606846976).bind fun t118 => (some t118)) = some r := h
 clear h
 replace H := Option.bind_eq_some_iff.mp H
 obtain ⟨t118, A20, H⟩ := H
 replace H : (some t118) = some r := H
 have A2 := Aside0.mk A20
 clear A20
 obtain rfl := Option.some.inj H
 go_enter Try.func92, Try.ntmps92
 go_wp2_with (first | ((with_reducible refine gate_dst (N := 1) rfl ?_); refine Ka_ 1 #[.int .u64 a0_0, .int .u64 a0_1, .int .u64 a0_2, .int .u64 a0_3] 28 ?_; intro gb117 hg w3 hbox hb; have BK117 := Aside0.mk (hbox); have GW117 := Kw_ HB hg; have GE117 := GW117; replace HB := Ks_ HB hb; clear hb hbox hg; obtain ⟨hcz4_0, hcz4_1, hcz4_2, hcz4_3, hfz4_0, hfz4_1, hfz4_2, hfz4_3⟩ := Ke4_ BK117.out) | ((with_reducible refine gate_callee (f := 49) rfl ?_); refine Kg_ (some 5) rfl rfl Try.func49 (by kernel_rfl) rfl #[.agg #[.int .u64 a0_0, .int .u64 a0_1, .int .u64 a0_2, .int .u64 a0_3], .agg #[.int .u64 1152921504606846976, .int .u64 1152921504606846976, .int .u64 1152921504606846976, .int .u64 1152921504606846976]] rfl ?_; (with_reducible refine (vec_Leq.calls a0_0 a0_1 a0_2 a0_3 1152921504606846976 1152921504606846976 1152921504606846976 1152921504606846976 t118 _ A2.out).mono ?_); rintro e w5 ⟨rfl, hb⟩; refine ⟨_, rfl, ?_⟩; replace BK117 := Kb_ BK117 hb; replace HB := Ks_ HB hb; (try clear hb); (try clear hb2); (try clear hk); (try clear hi)))
 go_ret
 exact ⟨Kh_, Kz_ HB GE117⟩
def stamp_Right.f (a0_0 : Int) (a0_1 : Int) (a0_2 : Int) (a0_3 : Int) (a0_4 : Int) : Option (Bool) := (vec_Right.f a0_0 a0_1 a0_2 a0_3).bind fun t120 => (if t120 = true then ((stamp_Stamp_N.f a0_0 a0_1 a0_2 a0_3 a0_4).bind fun t121 => (some (decide (t121 > 0)))) else (some false))
set_option maxHeartbeats 8000000 in
set_option maxRecDepth 100000 in
theorem stamp_Right.calls (a0_0 : Int) (a0_1 : Int) (a0_2 : Int) (a0_3 : Int) (a0_4 : Int) (r : Bool) (w : World) (h : stamp_Right.f a0_0 a0_1 a0_2 a0_3 a0_4 = some r) :
  Calls Try.prog 69 #[.agg #[.int .u64 a0_0, .int .u64 a0_1, .int .u64 a0_2, .int .u64 a0_3, .int .i64 a0_4]] w fun e w' => e = .returned (.bool r) ∧ Below w.heap.size w w' := by
 have hu30 := Try.underlying30
 have hu28 := Try.underlying28
 have HB := Aside0.mk (Below.refl w.heap.size w)
 have H : ((vec_Right.f a0_0 a0_1 a0_2 a0_3).bind fun t120 => (if t120 = true then ((stamp_Stamp_N.f a0_0 a0_1 a0_2 a0_3 a0_4).bind fun t121 => (some (decide (t121 > 0)))) else (some false))) = some r := h
 clear h
 replace H := Option.bind_eq_some_iff.mp H
 obtain ⟨t120, A20, H⟩ := H
 replace H : (if t120 = true then ((stamp_Stamp_N.f a0_0 a0_1 a0_2 a0_3 a0_4).bind fun t121 => (some (decide (t121 > 0)))) else (some false)) = some r := H
 have A2 := Aside0.mk A20
 clear A20
 by_cases c3 : t120 = true
 rotate_left
 ·replace c3 := Bool.eq_false_iff.mpr c3
  subst c3
  have H1 : (some false) = some r := by rw [if_neg (show ¬ (false = true) by decide)] at H; exact H
  clear H
  have H := H1
  clear H1
  obtain rfl := Option.some.inj H
  go_enter Try.func69, Try.ntmps69
  go_wp2_with (first | ((with_reducible refine gate_dst (N := 1) rfl ?_); refine Ka_ 1 #[.int .u64 a0_0, .int .u64 a0_1, .int .u64 a0_2, .int .u64 a0_3, .int .i64 a0_4] 30 ?_; intro gb119 hg w10 hbox hb; have BK119 := Aside0.mk (hbox); have GW119 := Kw_ HB hg; have GE119 := GW119; replace HB := Ks_ HB hb; clear hb hbox hg; obtain ⟨hcz11_0, hcz11_1, hcz11_2, hcz11_3, hcz11_4, hfz11_0, hfz11_1, hfz11_2, hfz11_3, hfz11_4⟩ := Ke5_ BK119.out) | ((with_reducible refine gate_callee (f := 92) rfl ?_); refine Kg_ (some 5) rfl rfl Try.func92 (by kernel_rfl) rfl #[.agg #[.int .u64 a0_0, .int .u64 a0_1, .int .u64 a0_2, .int .u64 a0_3]] rfl ?_; (with_reducible refine (vec_Right.calls a0_0 a0_1 a0_2 a0_3 false _ A2.out).mono ?_); rintro e w12 ⟨rfl, hb⟩; refine ⟨_, rfl, ?_⟩; replace BK119 := Kb_ BK119 hb; replace HB := Ks_ HB hb; (try clear hb); (try clear hb2); (try clear hk); (try clear hi)))
  go_ret
  exact ⟨Kh_, Kz_ HB GE119⟩
 subst c3
 have H1 : ((stamp_Stamp_N.f a0_0 a0_1 a0_2 a0_3 a0_4).bind fun t121 => (some (decide (t121 > 0)))) = some r := by rw [if_pos rfl] at H; exact H
 clear H
 have H := H1
 clear H1
 replace H := Option.bind_eq_some_iff.mp H
 obtain ⟨t121, A40, H⟩ := H
 replace H : (some (decide (t121 > 0))) = some r := H
 have A4 := Aside0.mk A40
 clear A40
 obtain rfl := Option.some.inj H
 go_enter Try.func69, Try.ntmps69
 go_wp2_with (first | ((with_reducible refine gate_dst (N := 1) rfl ?_); refine Ka_ 1 #[.int .u64 a0_0, .int .u64 a0_1, .int .u64 a0_2, .int .u64 a0_3, .int .i64 a0_4] 30 ?_; intro gb119 hg w5 hbox hb; have BK119 := Aside0.mk (hbox); have GW119 := Kw_ HB hg; have GE119 := GW119; replace HB := Ks_ HB hb; clear hb hbox hg; obtain ⟨hcz6_0, hcz6_1, hcz6_2, hcz6_3, hcz6_4, hfz6_0, hfz6_1, hfz6_2, hfz6_3, hfz6_4⟩ := Ke5_ BK119.out) | ((with_reducible refine gate_callee (f := 92) rfl ?_); refine Kg_ (some 5) rfl rfl Try.func92 (by kernel_rfl) rfl #[.agg #[.int .u64 a0_0, .int .u64 a0_1, .int .u64 a0_2, .int .u64 a0_3]] rfl ?_; (with_reducible refine (vec_Right.calls a0_0 a0_1 a0_2 a0_3 true _ A2.out).mono ?_); rintro e w7 ⟨rfl, hb⟩; refine ⟨_, rfl, ?_⟩; replace BK119 := Kb_ BK119 hb; replace HB := Ks_ HB hb; (try clear hb); (try clear hb2); (try clear hk); (try clear hi); obtain ⟨hcz8_0, hcz8_1, hcz8_2, hcz8_3, hcz8_4, hfz8_0, hfz8_1, hfz8_2, hfz8_3, hfz8_4⟩ := Ke5_ BK119.out) | (go_at_call 47; (with_reducible refine (stamp_Stamp_N.calls a0_0 a0_1 a0_2 a0_3 a0_4 t121 _ A4.out).mono ?_); rintro e w9 ⟨rfl, hb⟩; replace BK119 := Kb_ BK119 hb; replace HB := Ks_ HB hb; (try clear hb); (try clear hb2); (try clear hk); (try clear hi)))
 go_ret
 exact ⟨Kh_, Kz_ HB GE119⟩
def item_Whole.apart : List S107 → Bool
 | [] => true
 | x :: xs => xs.all (fun y => !decide (x.f0.data.toList = y.f0.data.toList ∧ x.f1.data.toList = y.f1.data.toList)) && item_Whole.apart xs
def item_Whole.right (x : S107) : Bool := (item_Right.f x.f0 x.f1 x.f2 x.f3).getD false
def item_Whole.f (a0_0 a0_1 a0_2 a0_3 a0_4 : Int) (l0_5 : List S107) : Option Bool :=
 if (∀ x ∈ l0_5, x.f0.size ≤ 9223372036854775807 ∧ x.f1.size ≤ 9223372036854775807) ∧ l0_5.length ≤ 9223372036854775806 then
  (stamp_Right.f a0_0 a0_1 a0_2 a0_3 a0_4).bind fun t => some (t && decide (0 < l0_5.length) && decide (l0_5.length ≤ 8) && item_Whole.apart l0_5 && !l0_5.any (fun x => !item_Whole.right x))
 else none
theorem item_Whole.right_f (x : S107) : item_Right.f x.f0 x.f1 x.f2 x.f3 = some (item_Whole.right x) := by
 unfold item_Whole.right
 have hn : ∀ s : ByteArray, ∃ b, item_named.f s = some b := by
  intro s
  unfold item_named.f
  split <;> exact ⟨_, rfl⟩
 unfold item_Right.f
 obtain ⟨b, hb⟩ := hn x.f0
 obtain ⟨c, hc⟩ := hn x.f1
 rw [hb, hc, Option.bind_some, Option.bind_some]
 repeat' split
 all_goals rfl
abbrev item_Whole.enc (x : S107) : Value := .agg #[.string x.f0, .string x.f1, .string x.f2, .bool x.f3]
theorem item_Whole.enters_ (P : Program) {f : FuncId} {fn : Func} {c : Code} (hf : P.funcs[f]? = some fn) (hname : (fn.name == "runtime.NumGoroutine") = false) (hb : fn.body = some c) (args : Array Value) (w : World) : (callFunc f args).run P w = .ok (.enter f args) w := by
 have h1 : fn.name ≠ "runtime.NumGoroutine" := by simpa using hname
 simp [callFunc, hf, h1, hb, mark]
set_option maxHeartbeats 8000000 in
set_option maxRecDepth 100000 in
theorem item_Whole.clos (x0 x1 x2 : ByteArray) (x3 : Bool) (w : World) :
  Calls Try.prog 94 #[.agg #[.string x0, .string x1, .string x2, .bool x3]] w fun e w' => e = .returned (.bool (!item_Whole.right ⟨x0, x1, x2, x3⟩)) ∧ Below w.heap.size w w' := by
 have HB := Aside0.mk (Below.refl w.heap.size w)
 have HR := Aside0.mk (item_Whole.right_f ⟨x0, x1, x2, x3⟩)
 generalize item_Whole.right ⟨x0, x1, x2, x3⟩ = b at HR ⊢
 go_enter Try.func94, Try.ntmps94
 replace HB := Aside0.mk (below_alloc HB.out (Obj.cells #[.string x0, .string x1, .string x2, .bool x3] 107))
 go_wp2_with (go_at_call 95; refine (item_Right.calls x0 x1 x2 x3 b _ HR.out).mono ?_; rintro e w1 ⟨rfl, hb⟩; replace HB := Aside0.mk (below_step HB.out hb); clear hb)
 go_ret
 exact ⟨rfl, HB.out⟩
set_option maxHeartbeats 8000000 in
set_option maxRecDepth 100000 in
theorem item_Whole.index_ (p : S107 → Bool) (g : Nat) (lb : Array Value) (eg : ∀ args w, (callFunc g args).run Try.prog w = .ok (.enter g args) w) (A : Option Addr) (c : Nat) (l : List S107) (w : World) (hr : Kd.C k107 w A l.length l) (hc : l.length ≤ c) (hl : l.length ≤ 9223372036854775806)
  (hp : ∀ (W : World) (x : S107), Below w.heap.size w W → Calls Try.prog g (#[item_Whole.enc x] ++ lb) W fun e w' => e = .returned (.bool (p x)) ∧ Below W.heap.size W w') :
  Calls Try.prog 105 #[.slice A l.length c, .func (.func g) #[] lb] w fun e w' => ∃ r : Int, e = .returned (.int .i64 r) ∧ decide (r ≥ 0) = l.any p ∧ Below w.heap.size w w' := by
 have HR0 := Aside0.mk hr
 clear hr
 have HB := Aside0.mk (Below.refl w.heap.size w)
 have HP := Aside0.mk hp
 clear hp
 go_enter Try.func105, Try.ntmps105
 go_wp2
 go_loopg [8] l.length (fun kq v8 w' => ∃ (j : Nat), v8 = .int .i64 j ∧ Aside0 (j ≤ l.length) ∧ Aside0 (l.length - j ≤ kq) ∧ Aside0 ((l.take j).any p = false) ∧ Aside0 (Below w.heap.size w w'))
 case atStart => exact ⟨0, rfl, ⟨by omega⟩, ⟨by omega⟩, ⟨rfl⟩, HB⟩
 case round =>
  obtain ⟨j, rfl, HJ, HK, HO, HB⟩ := hrel
  by_cases c1 : j < l.length
  rotate_left
  ·have c1b : decide ((j : Int) < (l.length : Int)) = false := decide_eq_false (by omega)
   have e : l.take j = l := List.take_of_length_le (by omega)
   rw [e] at HO
   go_wp2
   go_ret
   exact ⟨_, rfl, by rw [HO.out]; rfl, HB.out⟩
  ·have c1b : decide ((j : Int) < (l.length : Int)) = true := decide_eq_true (by omega)
   have c0b : decide (0 ≤ (j : Int)) = true := decide_eq_true (by omega)
   have hx : l[j]? = .some (rd_T107 l j) := by
    unfold rd_T107
    rw [Int.toNat_natCast, List.getD_eq_getElem?_getD, List.getElem?_eq_getElem c1]
    rfl
   have hm : rd_T107 l j ∈ l := List.mem_of_getElem? hx
   obtain ⟨ad, e0, h0, h1, h2, h3⟩ := at_T107 HR0.out (j : Int) (by omega) (by omega)
   cases e0
   replace h0 := (HB.out.cell (World.block_lt_of_cell? w _ h0)).trans h0
   replace h1 := (HB.out.cell (World.block_lt_of_cell? w _ h1)).trans h1
   replace h2 := (HB.out.cell (World.block_lt_of_cell? w _ h2)).trans h2
   replace h3 := (HB.out.cell (World.block_lt_of_cell? w _ h3)).trans h3
   have HX := Aside0.mk (show (l.take (j + 1)).any p = p (rd_T107 l j) by
    rw [List.take_add_one, hx, List.any_append, HO.out]
    simp only [Option.toList, List.any_cons, List.any_nil, Bool.or_false, Bool.false_or])
   have HY := Aside0.mk (show p (rd_T107 l j) = true → l.any p = true from fun h => List.any_eq_true.2 ⟨_, hm, h⟩)
   clear hx hm HO
   generalize rd_T107 l j = x at *
   obtain ⟨x0, x1, x2, x3⟩ := x
   simp only [Int.toNat_natCast] at h0 h1 h2 h3
   have HC := Aside0.mk (HP.out wr ⟨x0, x1, x2, x3⟩ HB.out)
   cases hq : p ⟨x0, x1, x2, x3⟩ with
   | true =>
    have hy := HY.out hq
    rw [hq] at HC
    go_wp2_with (fail)
    refine HC.out.mono ?_
    rintro e w1 ⟨rfl, hb⟩
    replace HB := Aside0.mk (below_step HB.out hb)
    clear hb HC
    go_wp2
    go_ret
    exact ⟨j, rfl, by rw [hy]; exact decide_eq_true (by omega), HB.out⟩
   | false =>
    rw [hq] at HC HX
    go_wp2_with (fail)
    refine HC.out.mono ?_
    rintro e w1 ⟨rfl, hb⟩
    replace HB := Aside0.mk (below_step HB.out hb)
    clear hb HC
    go_wp2
    go_roundg (l.length - (j + 1))
    case measure => have := HK.out; omega
    case rel => exact ⟨j + 1, by first | rfl | (rw [show ((j + 1 : Nat) : Int) = (j : Int) + 1 by omega]; rfl) | (rw [show ((j + 1 : Nat) : Int) = (j : Int) + 1 by omega]; congr 1; exact wrap64_id (by omega) (by omega)), ⟨by omega⟩, ⟨by omega⟩, HX, HB⟩
set_option maxHeartbeats 8000000 in
set_option maxRecDepth 100000 in
theorem item_Whole.contains_ (A : Option Addr) (c : Nat) (l : List S107) (w : World) (hr : Kd.C k107 w A l.length l) (hc : l.length ≤ c) (hl : l.length ≤ 9223372036854775806) :
  Calls Try.prog 96 #[.slice A l.length c, .func (.func 94) #[] #[]] w fun e w' => e = .returned (.bool (l.any fun x => !item_Whole.right x)) ∧ Below w.heap.size w w' := by
 have HC := Aside0.mk (item_Whole.index_ (fun x => !item_Whole.right x) 94 #[] (item_Whole.enters_ Try.prog Try.func94 (by kernel_rfl) rfl) A c l w hr hc hl (fun W x _ => by obtain ⟨x0, x1, x2, x3⟩ := x; exact item_Whole.clos x0 x1 x2 x3 W))
 clear hr hc
 generalize (l.any fun x => !item_Whole.right x) = b at HC ⊢
 go_enter Try.func96, Try.ntmps96
 go_wp2_with (go_at_call 105; refine HC.out.mono ?_; rintro e w1 ⟨r, rfl, hd, hb⟩; have HD := Aside0.mk hd; have HB := Aside0.mk hb; clear hd hb HC)
 go_ret
 exact ⟨by rw [← HD.out]; rfl, HB.out⟩
def item_Whole.kl (x : S107) : Lit := .string (keyBytes [.string x.f0.data.toList, .string x.f1.data.toList])
theorem item_Whole.keyed : Go.Maps.Keyed Try.prog 169 :=
 Go.Maps.Keyed.of_law (deep_law_laid (show laidOutB Try.prog = true by kernel_rfl) (m := 2) (by omega) (of_decide_eq_true (by kernel_rfl)) (by kernel_rfl) (by kernel_rfl))
theorem item_Whole.key_of (x : S107) (h0 : x.f0.size ≤ 9223372036854775807) (h1 : x.f1.size ≤ 9223372036854775807) : keyOf Try.prog 169 (.agg #[.string x.f0, .string x.f1]) = some (item_Whole.kl x) := by
 have hu := Try.underlying169
 have hs := Try.underlying9
 have hk : Try.prog.keyType 169 = true := by kernel_rfl
 have hf : (Value.agg #[.string x.f0, .string x.f1]).formed Try.prog 169 = true := by
  have hc : Try.prog.cellsOf 169 = 2 := by kernel_rfl
  simp [Value.formed, hu, hc]
 have hc : Try.prog.cellsOf 169 = 2 := by kernel_rfl
 have hc9 : Try.prog.cellsOf 9 = 1 := by kernel_rfl
 have hn : ∃ n, Try.prog.types.size + 1 = n + 2 := ⟨Try.prog.types.size - 1, by have : 1 ≤ Try.prog.types.size := of_decide_eq_true (by kernel_rfl); omega⟩
 obtain ⟨n, hn⟩ := hn
 have m0 : x.f0.size ≤ maxLen := by unfold maxLen; omega
 have m1 : x.f1.size ≤ maxLen := by unfold maxLen; omega
 unfold keyOf
 rw [hu]
 simp only [hk, hf, Bool.and_self, if_true, hn]
 have k1 : ∀ s : ByteArray, s.size ≤ maxLen → Try.prog.keyLits (n + 1) 9 [.string s] = some [.string s.data.toList] := by
  intro s m
  unfold Program.keyLits
  simp only [hs]
  rw [if_pos m]
 unfold Program.keyLits
 simp only [hu]
 rw [if_pos ⟨by rw [hc]; rfl, by first | rfl | decide +kernel⟩]
 have e0 := k1 _ m0
 have e1 := k1 _ m1
 clear hu hs hk hf hc
 simp [hc9, Value.cells, e0, e1, item_Whole.kl]
theorem item_Whole.kl_inj (x y : S107) (h0 : x.f0.size ≤ 9223372036854775807) (h1 : x.f1.size ≤ 9223372036854775807) (k0 : y.f0.size ≤ 9223372036854775807) (k1 : y.f1.size ≤ 9223372036854775807) (h : item_Whole.kl x = item_Whole.kl y) : x.f0 = y.f0 ∧ x.f1 = y.f1 := by
 have e := item_Whole.keyed.inj (item_Whole.key_of x h0 h1) (h ▸ item_Whole.key_of y k0 k1)
 simpa using e
theorem item_Whole.isKey (x : S107) : WideAt.IsKeyLit (item_Whole.kl x) := trivial
theorem item_Whole.fold_len : ∀ (L acc : List Lit), (L.foldl Go.Maps.addKey acc).length ≤ acc.length + L.length
 | [], acc => by simp
 | x :: xs, acc => by
  rw [List.foldl_cons]
  have h := item_Whole.fold_len xs (Go.Maps.addKey acc x)
  have h2 : (Go.Maps.addKey acc x).length ≤ acc.length + 1 := by
   unfold Go.Maps.addKey
   split <;> simp
  simp only [List.length_cons]
  omega
theorem item_Whole.fold_apart : ∀ (l : List S107) (acc : List Lit), (∀ x ∈ l, x.f0.size ≤ 9223372036854775807 ∧ x.f1.size ≤ 9223372036854775807) →
  (((l.map item_Whole.kl).foldl Go.Maps.addKey acc).length = acc.length + l.length ↔ (∀ x ∈ l, acc.any (fun y => y.sameKey (item_Whole.kl x)) = false) ∧ item_Whole.apart l = true)
 | [], acc, _ => by simp [item_Whole.apart]
 | x :: xs, acc, hs => by
  have hs' : ∀ y ∈ xs, y.f0.size ≤ 9223372036854775807 ∧ y.f1.size ≤ 9223372036854775807 := fun y hy => hs y (by simp [hy])
  rw [List.map_cons, List.foldl_cons]
  by_cases c : acc.any (fun y => y.sameKey (item_Whole.kl x)) = true
  ·have e : Go.Maps.addKey acc (item_Whole.kl x) = acc := by unfold Go.Maps.addKey; rw [if_pos c]
   rw [e]
   have h := item_Whole.fold_len (xs.map item_Whole.kl) acc
   rw [List.length_map] at h
   constructor
   ·intro h2
    simp only [List.length_cons] at h2
    omega
   ·intro h2
    have := h2.1 x (by simp)
    rw [c] at this
    cases this
  ·have c' : acc.any (fun y => y.sameKey (item_Whole.kl x)) = false := by simpa using c
   have e : Go.Maps.addKey acc (item_Whole.kl x) = acc ++ [item_Whole.kl x] := by unfold Go.Maps.addKey; rw [if_neg c]
   rw [e]
   have h := item_Whole.fold_apart xs (acc ++ [item_Whole.kl x]) hs'
   have hx : ∀ y ∈ xs, (item_Whole.kl x).sameKey (item_Whole.kl y) = decide (x.f0.data.toList = y.f0.data.toList ∧ x.f1.data.toList = y.f1.data.toList) := by
    intro y hy
    by_cases d : x.f0.data.toList = y.f0.data.toList ∧ x.f1.data.toList = y.f1.data.toList
    ·have e : item_Whole.kl x = item_Whole.kl y := by unfold item_Whole.kl; rw [d.1, d.2]
     rw [e, WideAt.sameKey_self (item_Whole.isKey y), decide_eq_true d]
    ·have e : item_Whole.kl x ≠ item_Whole.kl y := fun e => d (by
      have q := item_Whole.kl_inj x y (hs x (by simp)).1 (hs x (by simp)).2 (hs' y hy).1 (hs' y hy).2 e
      rw [q.1, q.2]
      exact ⟨rfl, rfl⟩)
     rw [Go.Maps.sameKey_ne e, decide_eq_false d]
   rw [List.length_append, List.length_singleton] at h
   rw [List.length_cons, show acc.length + (xs.length + 1) = acc.length + 1 + xs.length by omega, h]
   have ea : item_Whole.apart (x :: xs) = (xs.all (fun y => !decide (x.f0.data.toList = y.f0.data.toList ∧ x.f1.data.toList = y.f1.data.toList)) && item_Whole.apart xs) := rfl
   rw [ea, Bool.and_eq_true, List.all_eq_true]
   constructor
   ·rintro ⟨h1, h2⟩
    refine ⟨?_, ?_, h2⟩
    ·intro y hy
     rcases List.mem_cons.1 hy with rfl | hy
     ·exact c'
     ·have := h1 y hy
      rw [List.any_append, Bool.or_eq_false_iff] at this
      exact this.1
    ·intro y hy
     have := h1 y hy
     rw [List.any_append, Bool.or_eq_false_iff] at this
     have := this.2
     simp only [List.any_cons, List.any_nil, Bool.or_false] at this
     rw [← hx y hy, this]
     rfl
   ·rintro ⟨h1, h2, h3⟩
    refine ⟨?_, h3⟩
    intro y hy
    rw [List.any_append, h1 y (by simp [hy]), Bool.false_or]
    simp only [List.any_cons, List.any_nil, Bool.or_false]
    rw [hx y hy]
    have q := h2 y hy
    revert q
    cases decide (x.f0.data.toList = y.f0.data.toList ∧ x.f1.data.toList = y.f1.data.toList) <;> simp
theorem item_Whole.size_apart (l : List S107) (hs : ∀ x ∈ l, x.f0.size ≤ 9223372036854775807 ∧ x.f1.size ≤ 9223372036854775807) (u : DataW Unit) : decide (((Go.Maps.size (Go.Maps.setOf u (l.map item_Whole.kl)) : Nat) : Int) = (l.length : Int)) = item_Whole.apart l := by
 have h1 : Go.Maps.size (Go.Maps.setOf u (l.map item_Whole.kl)) = ((l.map item_Whole.kl).foldl Go.Maps.addKey []).length := Go.Maps.size_setOf u _ (fun y hy => by obtain ⟨x, _, rfl⟩ := List.mem_map.1 hy; exact item_Whole.isKey x)
 have h2 := item_Whole.fold_apart l [] hs
 rw [h1]
 simp only [List.length_nil, Nat.zero_add, List.any_nil, implies_true, true_and] at h2
 cases hb : item_Whole.apart l with
 | true => exact decide_eq_true (by rw [h2.2 hb])
 | false => exact decide_eq_false (fun e => by rw [h2.1 (by omega)] at hb; cases hb)
theorem item_Whole.grown_below {w W w1 : World} {B : Nat} (h : Below w.heap.size w W) (hg : W.grownBy w1 (some B)) (hB : w.heap.size ≤ B) : Below w.heap.size w w1 :=
 ⟨hg.os.trans h.os, hg.tape.trans h.tape, hg.output.trans h.output, Nat.le_trans h.size hg.size, fun i hi => (hg.block i (Nat.lt_of_lt_of_le hi h.size) (by simp; omega)).trans (h.block i hi)⟩
set_option maxHeartbeats 8000000 in
set_option maxRecDepth 100000 in
theorem item_Whole.calls (a0_0 a0_1 a0_2 a0_3 a0_4 : Int) (A0_5 : Option Addr) (c0_5 : Nat) (l0_5 : List S107) (r : Bool) (w : World) (hr0_5 : Kd.C k107 w A0_5 l0_5.length l0_5) (hc0_5 : l0_5.length ≤ c0_5) (h : item_Whole.f a0_0 a0_1 a0_2 a0_3 a0_4 l0_5 = some r) :
  Calls Try.prog 73 #[.agg #[.int .u64 a0_0, .int .u64 a0_1, .int .u64 a0_2, .int .u64 a0_3, .int .i64 a0_4, .slice A0_5 l0_5.length c0_5]] w fun e w' => e = .returned (.bool r) ∧ Below w.heap.size w w' := by
 unfold item_Whole.f at h
 by_cases hs : (∀ x ∈ l0_5, x.f0.size ≤ 9223372036854775807 ∧ x.f1.size ≤ 9223372036854775807) ∧ l0_5.length ≤ 9223372036854775806
 rotate_left
 ·rw [if_neg hs] at h; cases h
 rw [if_pos hs] at h
 obtain ⟨t, ht, h⟩ := Option.bind_eq_some_iff.1 h
 obtain ⟨hs, hl⟩ := hs
 have HR := Aside0.mk hr0_5
 have HS := Aside0.mk hs
 have HT := Aside0.mk ht
 have HH := Aside0.mk (Option.some.inj h)
 have HKEY : Aside0 (∀ x ∈ l0_5, keyOf Try.prog 169 (.agg #[.string x.f0, .string x.f1]) = some (item_Whole.kl x)) := ⟨fun x hx => item_Whole.key_of x (hs x hx).1 (hs x hx).2⟩
 clear hr0_5 hs ht h
 have HB := Aside0.mk (Below.refl w.heap.size w)
 have hmm := @run_makeMap Try.prog
 go_enter Try.func73, Try.ntmps73
 go_wp2
 go_loopg [11] l0_5.length (fun kq v11 w' => ∃ (j : Nat), v11 = .int .i64 j ∧ Aside0 (j ≤ l0_5.length) ∧ Aside0 (l0_5.length - j ≤ kq) ∧ Aside0 (w'.heap[w.heap.size]? = some (.cells #[.int .u64 a0_0, .int .u64 a0_1, .int .u64 a0_2, .int .u64 a0_3, .int .i64 a0_4, .slice A0_5 l0_5.length c0_5] 33 (0, 0))) ∧ Aside0 (w'.ownsMap Try.prog 169 (plainElem (H := Unit) Try.prog 4) (w.heap.size + 1) j (Go.Maps.setOf (.lit (.bool true)) ((l0_5.take j).map item_Whole.kl))) ∧ Aside0 (Below w.heap.size w w'))
 case atStart =>
  have s1 : (w.alloc (Obj.cells #[.int .u64 a0_0, .int .u64 a0_1, .int .u64 a0_2, .int .u64 a0_3, .int .i64 a0_4, .slice A0_5 l0_5.length c0_5] 33)).heap.size = w.heap.size + 1 := by simp [World.alloc, -World.alloc_eq]
  have hmade := World.ownsMap_made (w.alloc (Obj.cells #[.int .u64 a0_0, .int .u64 a0_1, .int .u64 a0_2, .int .u64 a0_3, .int .i64 a0_4, .slice A0_5 l0_5.length c0_5] 33)) Try.prog 169 (plainElem (H := Unit) Try.prog 4)
  rw [s1] at hmade
  exact ⟨0, rfl, ⟨by omega⟩, ⟨by omega⟩, ⟨blk_alloc (blk_new _ _) _⟩, ⟨hmade⟩, ⟨below_alloc (below_alloc (Below.refl _ _) _) _⟩⟩
 case round =>
  obtain ⟨j, rfl, HJ, HK, HBK, HM, HB⟩ := hrel
  by_cases c1 : j < l0_5.length
  rotate_left
  ·have c1b : decide ((j : Int) < (l0_5.length : Int)) = false := decide_eq_false (by omega)
   have e : l0_5.take j = l0_5 := List.take_of_length_le (by omega)
   rw [e] at HM
   have HA := Aside0.mk (item_Whole.size_apart l0_5 HS.out (.lit (.bool true)))
   obtain ⟨k0, k1, k2, k3, k4, k5, z0, z1, z2, z3, z4, z5⟩ := Ke6_ HBK.out
   go_wp2_with (fail)
   refine (stamp_Right.calls a0_0 a0_1 a0_2 a0_3 a0_4 t _ HT.out).mono ?_
   rintro e w1 ⟨rfl, hb⟩
   have BK1 := Aside0.mk (blk_below HBK.out hb)
   have HM1 := HM.out.kept (row := none) (World.grownBy.mk hb.os hb.tape hb.output hb.size (fun i hi _ => hb.block i hi)) (by simp)
   have hlen := HM1.len Try.underlying167 3
   have HB2 := Aside0.mk (below_step HB.out hb)
   have HR2 := Aside0.mk (Kd.C_below HR.out HB2.out)
   clear hb HM1 HM HBK k0 k1 k2 k3 k4 k5 z0 z1 z2 z3 z4 z5 HB
   obtain ⟨k0, k1, k2, k3, k4, k5, z0, z1, z2, z3, z4, z5⟩ := Ke6_ BK1.out
   have HA' := HA.out
   clear HA
   generalize Go.Maps.size (Go.Maps.setOf (H := Unit) (.lit (.bool true)) (l0_5.map item_Whole.kl)) = m at hlen HA'
   have HH' := HH.out
   clear HH BK1 HT HS HKEY c1 HJ HK
   cases t with
   | false =>
    go_wp2
    go_ret
    exact ⟨by rw [← HH']; simp, HB2.out⟩
   | true =>
    by_cases d1 : 0 < l0_5.length
    rotate_left
    ·have q1 : decide (0 < (l0_5.length : Int)) = false := decide_eq_false (by omega)
     go_wp2
     go_ret
     exact ⟨by rw [← HH']; simp [d1], HB2.out⟩
    have q1 : decide (0 < (l0_5.length : Int)) = true := decide_eq_true (by omega)
    by_cases d2 : l0_5.length ≤ 8
    rotate_left
    ·have q2 : decide ((l0_5.length : Int) ≤ 8) = false := decide_eq_false (by omega)
     go_wp2
     go_ret
     exact ⟨by rw [← HH']; simp [d2], HB2.out⟩
    have q2 : decide ((l0_5.length : Int) ≤ 8) = true := decide_eq_true (by omega)
    cases ha : item_Whole.apart l0_5 with
    | false =>
     rw [ha] at HA' HH'
     have q3 : ((m : Int) == (l0_5.length : Int)) = false := HA'
     go_wp2
     go_ret
     exact ⟨by rw [← HH']; simp, HB2.out⟩
    | true =>
     rw [ha] at HA' HH'
     have q3 : ((m : Int) == (l0_5.length : Int)) = true := HA'
     go_wp2_with (fail)
     refine (item_Whole.contains_ A0_5 c0_5 l0_5 _ HR2.out hc0_5 hl).mono ?_
     rintro e w2 ⟨rfl, hb⟩
     have HB3 := Aside0.mk (below_step HB2.out hb)
     clear hb
     go_wp2
     go_ret
     exact ⟨by rw [← HH']; simp [d1, d2], HB3.out⟩
  ·have c1b : decide ((j : Int) < (l0_5.length : Int)) = true := decide_eq_true (by omega)
   have c0b : decide (0 ≤ (j : Int)) = true := decide_eq_true (by omega)
   have hx : l0_5[j]? = .some (rd_T107 l0_5 j) := by
    unfold rd_T107
    rw [Int.toNat_natCast, List.getD_eq_getElem?_getD, List.getElem?_eq_getElem c1]
    rfl
   have hm : rd_T107 l0_5 j ∈ l0_5 := List.mem_of_getElem? hx
   obtain ⟨ad, e0, h0, h1, h2, h3⟩ := at_T107 HR.out (j : Int) (by omega) (by omega)
   cases e0
   replace h0 := (HB.out.cell (World.block_lt_of_cell? w _ h0)).trans h0
   replace h1 := (HB.out.cell (World.block_lt_of_cell? w _ h1)).trans h1
   replace h2 := (HB.out.cell (World.block_lt_of_cell? w _ h2)).trans h2
   replace h3 := (HB.out.cell (World.block_lt_of_cell? w _ h3)).trans h3
   have HX := Aside0.mk (show Go.Maps.setOf (H := Unit) (.lit (.bool true)) ((l0_5.take (j + 1)).map item_Whole.kl) = (Go.Maps.setOf (.lit (.bool true)) ((l0_5.take j).map item_Whole.kl)).put (item_Whole.kl (rd_T107 l0_5 j)) (.lit (.bool true)) by
    rw [List.take_add_one, hx, List.map_append]
    exact Go.Maps.setOf_snoc _ _ _)
   have HY := Aside0.mk (HKEY.out _ hm)
   clear hx hm
   generalize rd_T107 l0_5 j = x at *
   obtain ⟨x0, x1, x2, x3⟩ := x
   simp only [Int.toNat_natCast] at h0 h1 h2 h3
   have HM1 := Aside0.mk (HM.out.alloc (Obj.cells #[.string x0, .string x1, .string x2, .bool x3] 107))
   have HB1 := Aside0.mk (below_alloc HB.out (Obj.cells #[.string x0, .string x1, .string x2, .bool x3] 107))
   have HBK1 := Aside0.mk (blk_alloc HBK.out (Obj.cells #[.string x0, .string x1, .string x2, .bool x3] 107))
   go_wp2_with (first | (at_mapUpdate; refine wpList_mapUpdate_own _ rfl _ _ _ 167 rfl 169 4 item_Whole.keyed Try.underlying167 (plainElem (H := Unit) Try.prog 4) (w.heap.size + 1) j _ rfl HM1.out (by unfold maxLen; omega) _ _ (item_Whole.kl ⟨x0, x1, x2, x3⟩) rfl rfl HY.out (.lit (.bool true)) [] (plainElem_bool Try.underlying4 true) ?_; intro w1 hown1 hgrow1; have HM2 := Aside0.mk hown1; have HG := Aside0.mk hgrow1; clear hown1 hgrow1))
   have hb1 := Aside0.mk (item_Whole.grown_below HB1.out HG.out (by omega))
   have hbk := Aside0.mk ((HG.out.block _ (blk_lt HBK1.out) (by simp)).trans HBK1.out)
   clear HB1 HG HBK1 HM1
   go_roundg (l0_5.length - (j + 1))
   case measure => have := HK.out; omega
   case rel => exact ⟨j + 1, by first | rfl | (rw [show ((j + 1 : Nat) : Int) = (j : Int) + 1 by omega]; rfl) | (rw [show ((j + 1 : Nat) : Int) = (j : Int) + 1 by omega]; congr 1; exact wrap64_id (by omega) (by omega)), ⟨by omega⟩, ⟨by omega⟩, hbk, ⟨by rw [HX.out]; exact HM2.out⟩, hb1⟩
def stream_Right.j0 : Nat → Bool → Int → Int → Int → Int → Int → Int → Int → Int → List (S107) → Option (Bool)
 | 0, _, _, _, _, _, _, _, _, _, _ => none
 | k + 1, x10, x108, x127, x109, x100, x101, x103, x104, x106, x126 => if x10 = true then (some false) else (if x108 = 1 then ((item_Whole.f x100 x101 x103 x104 x106 x126).bind fun t123 => (if t123 = true then ((stamp_Stamp_N.f x100 x101 x103 x104 x106).bind fun t124 => (some (x109 == t124))) else (some false))) else (if x108 = 2 then (if x109 ≤ 1152921504606846976 then ((item_Same.f k x100 x101 x103 x104 x106 x126 0 0 0 0 0 ([] : List (S107))).bind fun t125 => (some t125)) else (some false)) else (some false)))
def stream_Right.f (k : Nat) (a0_0 : Int) (a0_1 : Int) (a0_2 : Int) (a0_3 : Int) (a0_4 : Int) (a0_5 : Int) (a0_6 : Int) (a0_7 : Int) (l0_8 : List (S107)) : Option (Bool) := if a0_1 < 1 then (stream_Right.j0 k true a0_0 a0_1 a0_2 a0_3 a0_4 a0_5 a0_6 a0_7 l0_8) else (stream_Right.j0 k (decide (a0_1 > 4)) a0_0 a0_1 a0_2 a0_3 a0_4 a0_5 a0_6 a0_7 l0_8)
def stream_Right.T5 : Bool × List (List Nat × List Nat) := (true, [([], []), ([0], [0]), ([1], [1]), ([2, 2], [2]), ([3], [3]), ([4, 3], [3, 4]), ([3], [3]), ([6, 3], [3, 6]), ([7, 3], [3, 7]), ([8, 3, 3], [3, 8]), ([5, 9, 3], [3, 5, 9]), ([3, 10], [3, 10]), ([11, 9, 0, 1, 2, 3, 4, 5, 6, 7, 8, 9, 10, 11], [11])])
def stream_Right.B5 : List Nat := [0, 1, 3, 7, 15, 31, 15, 79, 207, 463, 1023, 2047, 4095]
theorem stream_Right.tab5 : rtab .any (opsOf Try.f33 5) = stream_Right.T5 := by kernel_rfl
theorem stream_Right.bits5 : waitsOk stream_Right.T5.2 stream_Right.B5 = true := by kernel_rfl
set_option maxHeartbeats 8000000 in
set_option maxRecDepth 100000 in
theorem stream_Right.calls (k : Nat) (a0_0 : Int) (a0_1 : Int) (a0_2 : Int) (a0_3 : Int) (a0_4 : Int) (a0_5 : Int) (a0_6 : Int) (a0_7 : Int) (A0_8 : Option Addr) (c0_8 : Nat) (l0_8 : List (S107)) (r : Bool) (w : World) (hr0_8 : Kd.C k107 w A0_8 l0_8.length l0_8) (hc0_8 : l0_8.length ≤ c0_8) (h : stream_Right.f k a0_0 a0_1 a0_2 a0_3 a0_4 a0_5 a0_6 a0_7 l0_8 = some r) :
  Calls Try.prog 33 #[.agg #[.int .i64 a0_0, .int .i64 a0_1, .int .u64 a0_2, .int .u64 a0_3, .int .u64 a0_4, .int .u64 a0_5, .int .u64 a0_6, .int .i64 a0_7, .slice A0_8 l0_8.length c0_8]] w fun e w' => e = .returned (.bool r) ∧ Below w.heap.size w w' := by
 have hu69 := Try.underlying69
 have hu33 := Try.underlying33
 have hu30 := Try.underlying30
 have HR0_8 := Aside0.mk hr0_8
 have HC0_8 := Aside0.mk hc0_8
 clear hr0_8 hc0_8
 have HB := Aside0.mk (Below.refl w.heap.size w)
 have H : (if a0_1 < 1 then (stream_Right.j0 k true a0_0 a0_1 a0_2 a0_3 a0_4 a0_5 a0_6 a0_7 l0_8) else (stream_Right.j0 k (decide (a0_1 > 4)) a0_0 a0_1 a0_2 a0_3 a0_4 a0_5 a0_6 a0_7 l0_8)) = some r := h
 clear h
 have HC2 := Aside0.mk H
 clear H
 go_enter Try.func33, Try.ntmps33
 go_upto_region 1 with (first | ((with_reducible refine gate_dst (N := 1) rfl ?_); refine Ka_ 1 #[.int .i64 a0_0, .int .i64 a0_1, .int .u64 a0_2, .int .u64 a0_3, .int .u64 a0_4, .int .u64 a0_5, .int .u64 a0_6, .int .i64 a0_7, .slice A0_8 l0_8.length c0_8] 69 ?_; intro gb122 hg w3 hbox hb; have BK122 := Aside0.mk (hbox); have GW122 := Kw_ HB hg; have GE122 := GW122; replace HB := Ks_ HB hb; clear hb hbox hg))
 (try simp only [Act.put, List.setIfInBounds_toArray, List.set_cons_zero, List.set_cons_succ])
 go_cut [10] (fun v10 wc => ∃ (kq : Nat) (x10_1 : Bool), v10 = .bool x10_1 ∧ Aside0 (stream_Right.j0 kq x10_1 a0_0 a0_1 a0_2 a0_3 a0_4 a0_5 a0_6 a0_7 l0_8 = some r) ∧ Aside0 (kq ≤ k) ∧ Aside0 (wc.heap[gb122]? = some (.cells #[.int .i64 a0_0, .int .i64 a0_1, .int .u64 a0_2, .int .u64 a0_3, .int .u64 a0_4, .int .u64 a0_5, .int .u64 a0_6, .int .i64 a0_7, (.slice A0_8 l0_8.length c0_8)] 69 (0, 0))) ∧ Aside0 (Below w.heap.size w wc))
 case first =>
  have H := HC2.out
  clear HC2
  by_cases c4 : a0_1 < 1
  ·rw [if_pos c4] at H
   have c4b0 : decide (a0_1 < 1) = true := decide_eq_true c4
   clear c4
   (first | rw [c4b0] | (simp only [i64_w, i32_w]; rw [c4b0]) | skip)
   have H' := Aside0.mk H
   clear H
   obtain ⟨hcz5_0, hcz5_1, hcz5_2, hcz5_3, hcz5_4, hcz5_5, hcz5_6, hcz5_7, hcz5_8, hfz5_0, hfz5_1, hfz5_2, hfz5_3, hfz5_4, hfz5_5, hfz5_6, hfz5_7, hfz5_8⟩ := Ke9_ BK122.out
   go_wp2
   go_meet
   case rel => exact ⟨_, (true), (by first | rfl | (simp; done) | (simp [*]; done)), H', ⟨by first | omega | exact Nat.le_refl _⟩, ⟨by exact Kq_ BK122⟩, ⟨Kz_ HB GE122⟩⟩
  rw [if_neg c4] at H
  have c4b0 : decide (a0_1 < 1) = false := decide_eq_false c4
  clear c4
  (first | rw [c4b0] | (simp only [i64_w, i32_w]; rw [c4b0]) | skip)
  have H' := Aside0.mk H
  clear H
  obtain ⟨hcz6_0, hcz6_1, hcz6_2, hcz6_3, hcz6_4, hcz6_5, hcz6_6, hcz6_7, hcz6_8, hfz6_0, hfz6_1, hfz6_2, hfz6_3, hfz6_4, hfz6_5, hfz6_6, hfz6_7, hfz6_8⟩ := Ke9_ BK122.out
  go_wp2
  go_meet
  case rel => exact ⟨_, (decide (a0_1 > 4)), (by first | rfl | (simp; done) | (simp [*]; done)), H', ⟨by first | omega | exact Nat.le_refl _⟩, ⟨by exact Kq_ BK122⟩, ⟨Kz_ HB GE122⟩⟩
 case rest =>
  clear HC2
  try clear p2
  try clear c3
  try clear c4
  try clear c4b0
  try clear hcz5_0
  try clear hcz5_1
  try clear hcz5_2
  try clear hcz5_3
  try clear hcz5_4
  try clear hcz5_5
  try clear hcz5_6
  try clear hcz5_7
  try clear hcz5_8
  try clear hcz6_0
  try clear hcz6_1
  try clear hcz6_2
  try clear hcz6_3
  try clear hcz6_4
  try clear hcz6_5
  try clear hcz6_6
  try clear hcz6_7
  try clear hcz6_8
  try clear hfz5_0
  try clear hfz5_1
  try clear hfz5_2
  try clear hfz5_3
  try clear hfz5_4
  try clear hfz5_5
  try clear hfz5_6
  try clear hfz5_7
  try clear hfz5_8
  try clear hfz6_0
  try clear hfz6_1
  try clear hfz6_2
  try clear hfz6_3
  try clear hfz6_4
  try clear hfz6_5
  try clear hfz6_6
  try clear hfz6_7
  try clear hfz6_8
  obtain ⟨kq, x10_1, rfl, HA, HJ1, BK122, HB⟩ := hcut
  cases kq with
  | zero => exact absurd HA.out (by simp [stream_Right.j0])
  | succ kj1 =>
   have H := HA.out
   clear HA
   simp only [stream_Right.j0] at H
   by_cases c7 : x10_1 = true
   ·subst c7
    have H1 : (some false) = some r := by rw [if_pos rfl] at H; exact H
    clear H
    have H := H1
    clear H1
    obtain rfl := Option.some.inj H
    go_wp2
    go_ret
    exact ⟨Kh_, Kz_ HB GE122⟩
   replace c7 := Bool.eq_false_iff.mpr c7
   subst c7
   have H1 : (if a0_0 = 1 then ((item_Whole.f a0_3 a0_4 a0_5 a0_6 a0_7 l0_8).bind fun t123 => (if t123 = true then ((stamp_Stamp_N.f a0_3 a0_4 a0_5 a0_6 a0_7).bind fun t124 => (some (a0_2 == t124))) else (some false))) else (if a0_0 = 2 then (if a0_2 ≤ 1152921504606846976 then ((item_Same.f kj1 a0_3 a0_4 a0_5 a0_6 a0_7 l0_8 0 0 0 0 0 ([] : List (S107))).bind fun t125 => (some t125)) else (some false)) else (some false))) = some r := by rw [if_neg (show ¬ (false = true) by decide)] at H; exact H
   clear H
   have H := H1
   clear H1
   by_cases c8 : a0_0 = 1
   rotate_left
   ·rw [if_neg c8] at H
    have c8b0 : (a0_0 == 1) = false := beq_eq_false_iff_ne.mpr c8
    have c8b1 : (a0_0 != 1) = true := bne_iff_ne.mpr c8
    by_cases c19 : a0_0 = 2
    rotate_left
    ·rw [if_neg c19] at H
     have c19b0 : (a0_0 == 2) = false := beq_eq_false_iff_ne.mpr c19
     have c19b1 : (a0_0 != 2) = true := bne_iff_ne.mpr c19
     obtain rfl := Option.some.inj H
     obtain ⟨hcz25_0, hcz25_1, hcz25_2, hcz25_3, hcz25_4, hcz25_5, hcz25_6, hcz25_7, hcz25_8, hfz25_0, hfz25_1, hfz25_2, hfz25_3, hfz25_4, hfz25_5, hfz25_6, hfz25_7, hfz25_8⟩ := Ke9_ BK122.out
     go_wp2
     go_ret
     exact ⟨Kh_, Kz_ HB GE122⟩
    rw [if_pos c19] at H
    have c19b0 : (a0_0 == 2) = true := beq_iff_eq.mpr c19
    have c19b1 : (a0_0 != 2) = false := bne_eq_false_iff_eq.mpr c19
    clear c19
    by_cases c20 : a0_2 ≤ 1152921504606846976
    rotate_left
    ·rw [if_neg c20] at H
     have c20b0 : decide (a0_2 ≤ 1152921504606846976) = false := decide_eq_false c20
     clear c20
     obtain rfl := Option.some.inj H
     obtain ⟨hcz24_0, hcz24_1, hcz24_2, hcz24_3, hcz24_4, hcz24_5, hcz24_6, hcz24_7, hcz24_8, hfz24_0, hfz24_1, hfz24_2, hfz24_3, hfz24_4, hfz24_5, hfz24_6, hfz24_7, hfz24_8⟩ := Ke9_ BK122.out
     go_wp2
     go_ret
     exact ⟨Kh_, Kz_ HB GE122⟩
    rw [if_pos c20] at H
    have c20b0 : decide (a0_2 ≤ 1152921504606846976) = true := decide_eq_true c20
    clear c20
    replace H := Option.bind_eq_some_iff.mp H
    obtain ⟨t125, A210, H⟩ := H
    replace H : (some t125) = some r := H
    have A21 := Aside0.mk A210
    clear A210
    obtain rfl := Option.some.inj H
    obtain ⟨hcz22_0, hcz22_1, hcz22_2, hcz22_3, hcz22_4, hcz22_5, hcz22_6, hcz22_7, hcz22_8, hfz22_0, hfz22_1, hfz22_2, hfz22_3, hfz22_4, hfz22_5, hfz22_6, hfz22_7, hfz22_8⟩ := Ke9_ BK122.out
    go_wp2_with (first | (go_at_call 50; (refine (item_Same.calls kj1 a0_3 a0_4 a0_5 a0_6 a0_7 _ _ l0_8 0 0 0 0 0 _ _ ([] : List (S107)) t125 _ ?side1 ?side2 ?side3 ?side4 A21.out).mono ?_); (case side1 => repeat (first | exact (Kd.C_below HR0_8.out HB.out) | (with_reducible refine Kd.C_alloc ?_ _) | (with_reducible refine Kd.C_drewN ?_ _) | (with_reducible refine Kd.C_drew ?_))); (case side2 => exact HC0_8.out); (case side3 => exact Kd.C_nil _ _); (case side4 => exact Nat.le_refl _); rintro e w23 ⟨rfl, hb⟩; replace BK122 := Kb_ BK122 hb; replace HB := Ks_ HB hb; (try clear hb); (try clear hb2); (try clear hk); (try clear hi)))
    go_ret
    exact ⟨Kh_, Kz_ HB GE122⟩
   rw [if_pos c8] at H
   have c8b0 : (a0_0 == 1) = true := beq_iff_eq.mpr c8
   have c8b1 : (a0_0 != 1) = false := bne_eq_false_iff_eq.mpr c8
   clear c8
   replace H := Option.bind_eq_some_iff.mp H
   obtain ⟨t123, A90, H⟩ := H
   replace H : (if t123 = true then ((stamp_Stamp_N.f a0_3 a0_4 a0_5 a0_6 a0_7).bind fun t124 => (some (a0_2 == t124))) else (some false)) = some r := H
   have A9 := Aside0.mk A90
   clear A90
   by_cases c10 : t123 = true
   rotate_left
   ·replace c10 := Bool.eq_false_iff.mpr c10
    subst c10
    have H1 : (some false) = some r := by rw [if_neg (show ¬ (false = true) by decide)] at H; exact H
    clear H
    have H := H1
    clear H1
    obtain rfl := Option.some.inj H
    obtain ⟨hcz16_0, hcz16_1, hcz16_2, hcz16_3, hcz16_4, hcz16_5, hcz16_6, hcz16_7, hcz16_8, hfz16_0, hfz16_1, hfz16_2, hfz16_3, hfz16_4, hfz16_5, hfz16_6, hfz16_7, hfz16_8⟩ := Ke9_ BK122.out
    try go_wp2
    replace BK122 := Kd_ BK122
    replace HB := Aside0.mk (below_drew1 HB.out)
    refine start_ (n := 13) (S := fun w' => w'.cell? ⟨gb122, 0, none⟩ = some (.int .i64 a0_0) ∧ w'.cell? ⟨gb122, 1, none⟩ = some (.int .i64 a0_1) ∧ w'.cell? ⟨gb122, 2, none⟩ = some (.int .u64 a0_2) ∧ w'.cell? ⟨gb122, 3, none⟩ = some (.int .u64 a0_3) ∧ w'.cell? ⟨gb122, 4, none⟩ = some (.int .u64 a0_4) ∧ w'.cell? ⟨gb122, 5, none⟩ = some (.int .u64 a0_5) ∧ w'.cell? ⟨gb122, 6, none⟩ = some (.int .u64 a0_6) ∧ w'.cell? ⟨gb122, 7, none⟩ = some (.int .i64 a0_7) ∧ w'.cell? ⟨gb122, 8, none⟩ = some (.slice A0_8 l0_8.length c0_8)) (ds := []) (mB_ 13 0) (by kernel_rfl) rfl rfl (Kc9_ BK122.out) (fun hHeld => ?_); refine with_tabW stream_Right.tab5 stream_Right.bits5 (fun HT_ HW_ => ?_)
    generalize wc.drew = w17 at BK122 HB hHeld ⊢
    refine Kp_ 0 15 (mB_ 13 1) (any_of HT_.out (by kernel_rfl)) ?_
    refine Ko_ 1 16 (mB_ 13 3) (take_ofW HT_.out HW_.out (by kernel_rfl)) hHeld ?_
    refine one_ (i := 2) (N := some 17) (mB_ 13 7) rfl rfl (one_of HT_.out (by kernel_rfl)) (by decide) (fun K hK => ?_)
    refine goes_ Try.func73 (by kernel_rfl) rfl #[.agg #[.int .u64 a0_3, .int .u64 a0_4, .int .u64 a0_5, .int .u64 a0_6, .int .i64 a0_7, .slice A0_8 l0_8.length c0_8]] (by rfl) rfl rfl (by (try simp only [List.map_toArray, List.map_cons, List.map_nil]); first | done | rfl | (simp only [List.length_drop, List.length_take]; rfl)) ?_
    with_reducible refine (item_Whole.calls a0_3 a0_4 a0_5 a0_6 a0_7 _ _ l0_8 false _ ?side1 ?side2 A9.out).mono ?_
    (case side1 => repeat (first | exact (Kd.C_below HR0_8.out HB.out) | (with_reducible refine Kd.C_alloc ?_ _) | (with_reducible refine Kd.C_drewN ?_ _) | (with_reducible refine Kd.C_drew ?_)))
    (case side2 => exact HC0_8.out)
    rintro e w18 ⟨rfl, hb⟩
    refine ⟨_, rfl, ?_⟩
    replace BK122 := Kb_ BK122 hb
    replace HB := Ks_ HB hb
    (try clear hb)
    (try clear hb2)
    (try clear hk)
    (try clear hi)
    refine hK.out _ _ (Kc9_ BK122.out) (fun hHeld => ?_)
    clear hK K
    refine Kn_ 17 ?_
    refine Kp_ 3 18 (mB_ 13 15) (any_of HT_.out (by kernel_rfl)) ?_
    refine pure_ (i := 4) (N := some 19) (v := undef) (a' := ?_) (mB_ 13 31) rfl rfl (any_of HT_.out (by kernel_rfl)) (fun _ _ _ h => h) (Or.inr ⟨by rfl, rfl⟩) ?_ ?_
    rotate_left
    ·simp only [Act.put, List.setIfInBounds_toArray, List.set_cons_zero, List.set_cons_succ, i64_w, i32_w]
     rfl
    refine pure_ (i := 5) (N := some 20) (v := undef) (a' := ?_) (mB_ 13 63) rfl rfl (any_of HT_.out (by kernel_rfl)) (fun _ _ _ h => h) (Or.inr ⟨by rfl, rfl⟩) ?_ ?_
    rotate_left
    ·simp only [Act.put, List.setIfInBounds_toArray, List.set_cons_zero, List.set_cons_succ, i64_w, i32_w]
     rfl
    refine pure_ (i := 6) (N := some 21) (v := undef) (a' := ?_) (mB_ 13 127) rfl rfl (any_of HT_.out (by kernel_rfl)) (fun _ _ _ h => h) (Or.inr ⟨by rfl, rfl⟩) ?_ ?_
    rotate_left
    ·simp only [Act.put, List.setIfInBounds_toArray, List.set_cons_zero, List.set_cons_succ, i64_w, i32_w]
     rfl
    refine pure_ (i := 7) (N := some 22) (v := undef) (a' := ?_) (mB_ 13 255) rfl rfl (any_of HT_.out (by kernel_rfl)) (fun _ _ _ h => h) (Or.inr ⟨by rfl, rfl⟩) ?_ ?_
    rotate_left
    ·simp only [Act.put, List.setIfInBounds_toArray, List.set_cons_zero, List.set_cons_succ, i64_w, i32_w]
     rfl
    refine pure_ (i := 8) (N := some 23) (v := undef) (a' := ?_) (mB_ 13 511) rfl rfl (any_of HT_.out (by kernel_rfl)) (fun _ _ _ h => h) (Or.inr ⟨by rfl, rfl⟩) ?_ ?_
    rotate_left
    ·simp only [Act.put, List.setIfInBounds_toArray, List.set_cons_zero, List.set_cons_succ, i64_w, i32_w]
     rfl
    refine pure_ (i := 9) (N := some 24) (v := undef) (a' := ?_) (mB_ 13 1023) rfl rfl (any_of HT_.out (by kernel_rfl)) (fun _ _ _ h => h) (Or.inr ⟨by rfl, rfl⟩) ?_ ?_
    rotate_left
    ·simp only [Act.put, List.setIfInBounds_toArray, List.set_cons_zero, List.set_cons_succ, i64_w, i32_w]
     rfl
    refine pure_ (i := 10) (N := some 25) (v := undef) (a' := ?_) (mB_ 13 2047) rfl rfl (any_of HT_.out (by kernel_rfl)) (fun _ _ _ h => h) (Or.inr ⟨by rfl, rfl⟩) ?_ ?_
    rotate_left
    ·simp only [Act.put, List.setIfInBounds_toArray, List.set_cons_zero, List.set_cons_succ, i64_w, i32_w]
     rfl
    refine Kp_ 11 26 (mB_ 13 4095) (any_of HT_.out (by kernel_rfl)) ?_
    refine Kp_ 12 2 (mB_ 13 8191) (any_of HT_.out (by kernel_rfl)) ?_
    refine done_ (done_of HT_.out (by kernel_rfl)) ?_
    try go_wp2
    go_ret
    exact ⟨Kh_, Kz_ HB GE122⟩
   subst c10
   have H1 : ((stamp_Stamp_N.f a0_3 a0_4 a0_5 a0_6 a0_7).bind fun t124 => (some (a0_2 == t124))) = some r := by rw [if_pos rfl] at H; exact H
   clear H
   have H := H1
   clear H1
   replace H := Option.bind_eq_some_iff.mp H
   obtain ⟨t124, A110, H⟩ := H
   replace H : (some (a0_2 == t124)) = some r := H
   have A11 := Aside0.mk A110
   clear A110
   obtain rfl := Option.some.inj H
   obtain ⟨hcz12_0, hcz12_1, hcz12_2, hcz12_3, hcz12_4, hcz12_5, hcz12_6, hcz12_7, hcz12_8, hfz12_0, hfz12_1, hfz12_2, hfz12_3, hfz12_4, hfz12_5, hfz12_6, hfz12_7, hfz12_8⟩ := Ke9_ BK122.out
   try go_wp2
   replace BK122 := Kd_ BK122
   replace HB := Aside0.mk (below_drew1 HB.out)
   refine start_ (n := 13) (S := fun w' => w'.cell? ⟨gb122, 0, none⟩ = some (.int .i64 a0_0) ∧ w'.cell? ⟨gb122, 1, none⟩ = some (.int .i64 a0_1) ∧ w'.cell? ⟨gb122, 2, none⟩ = some (.int .u64 a0_2) ∧ w'.cell? ⟨gb122, 3, none⟩ = some (.int .u64 a0_3) ∧ w'.cell? ⟨gb122, 4, none⟩ = some (.int .u64 a0_4) ∧ w'.cell? ⟨gb122, 5, none⟩ = some (.int .u64 a0_5) ∧ w'.cell? ⟨gb122, 6, none⟩ = some (.int .u64 a0_6) ∧ w'.cell? ⟨gb122, 7, none⟩ = some (.int .i64 a0_7) ∧ w'.cell? ⟨gb122, 8, none⟩ = some (.slice A0_8 l0_8.length c0_8)) (ds := []) (mB_ 13 0) (by kernel_rfl) rfl rfl (Kc9_ BK122.out) (fun hHeld => ?_); refine with_tabW stream_Right.tab5 stream_Right.bits5 (fun HT_ HW_ => ?_)
   generalize wc.drew = w13 at BK122 HB hHeld ⊢
   refine Kp_ 0 15 (mB_ 13 1) (any_of HT_.out (by kernel_rfl)) ?_
   refine Ko_ 1 16 (mB_ 13 3) (take_ofW HT_.out HW_.out (by kernel_rfl)) hHeld ?_
   refine one_ (i := 2) (N := some 17) (mB_ 13 7) rfl rfl (one_of HT_.out (by kernel_rfl)) (by decide) (fun K hK => ?_)
   refine goes_ Try.func73 (by kernel_rfl) rfl #[.agg #[.int .u64 a0_3, .int .u64 a0_4, .int .u64 a0_5, .int .u64 a0_6, .int .i64 a0_7, .slice A0_8 l0_8.length c0_8]] (by rfl) rfl rfl (by (try simp only [List.map_toArray, List.map_cons, List.map_nil]); first | done | rfl | (simp only [List.length_drop, List.length_take]; rfl)) ?_
   with_reducible refine (item_Whole.calls a0_3 a0_4 a0_5 a0_6 a0_7 _ _ l0_8 true _ ?side1 ?side2 A9.out).mono ?_
   (case side1 => repeat (first | exact (Kd.C_below HR0_8.out HB.out) | (with_reducible refine Kd.C_alloc ?_ _) | (with_reducible refine Kd.C_drewN ?_ _) | (with_reducible refine Kd.C_drew ?_)))
   (case side2 => exact HC0_8.out)
   rintro e w14 ⟨rfl, hb⟩
   refine ⟨_, rfl, ?_⟩
   replace BK122 := Kb_ BK122 hb
   replace HB := Ks_ HB hb
   (try clear hb)
   (try clear hb2)
   (try clear hk)
   (try clear hi)
   refine hK.out _ _ (Kc9_ BK122.out) (fun hHeld => ?_)
   clear hK K
   refine Kn_ 17 ?_
   refine Kp_ 3 18 (mB_ 13 15) (any_of HT_.out (by kernel_rfl)) ?_
   refine Kp_ 4 19 (mB_ 13 31) (any_of HT_.out (by kernel_rfl)) ?_
   refine Kp_ 6 21 (mB_ 13 95) (any_of HT_.out (by kernel_rfl)) ?_
   refine Kp_ 7 22 (mB_ 13 223) (any_of HT_.out (by kernel_rfl)) ?_
   refine Ko_ 5 20 (mB_ 13 255) (take_ofW HT_.out HW_.out (by kernel_rfl)) hHeld ?_
   refine Ko_ 8 23 (mB_ 13 511) (take_ofW HT_.out HW_.out (by kernel_rfl)) hHeld ?_
   refine one_ (i := 9) (N := some 24) (mB_ 13 1023) rfl rfl (one_of HT_.out (by kernel_rfl)) (by decide) (fun K hK => ?_)
   refine goes_ Try.func47 (by kernel_rfl) rfl #[.agg #[.int .u64 a0_3, .int .u64 a0_4, .int .u64 a0_5, .int .u64 a0_6, .int .i64 a0_7]] (by rfl) rfl rfl (by (try simp only [List.map_toArray, List.map_cons, List.map_nil]); first | done | rfl | (simp only [List.length_drop, List.length_take]; rfl)) ?_
   with_reducible refine (stamp_Stamp_N.calls a0_3 a0_4 a0_5 a0_6 a0_7 t124 _ A11.out).mono ?_
   rintro e w15 ⟨rfl, hb⟩
   refine ⟨_, rfl, ?_⟩
   replace BK122 := Kb_ BK122 hb
   replace HB := Ks_ HB hb
   (try clear hb)
   (try clear hb2)
   (try clear hk)
   (try clear hi)
   refine hK.out _ _ (Kc9_ BK122.out) (fun hHeld => ?_)
   clear hK K
   refine Kn_ 24 ?_
   refine Kp_ 10 25 (mB_ 13 2047) (any_of HT_.out (by kernel_rfl)) ?_
   refine Kp_ 11 26 (mB_ 13 4095) (any_of HT_.out (by kernel_rfl)) ?_
   refine Kp_ 12 2 (mB_ 13 8191) (any_of HT_.out (by kernel_rfl)) ?_
   refine done_ (done_of HT_.out (by kernel_rfl)) ?_
   try go_wp2
   go_ret
   exact ⟨Kh_, Kz_ HB GE122⟩
def numL (a0 : Int) (n : Nat) : List Int := (List.range n).map fun k => a0 / (2 ^ (8 * (n - 1 - k)) : Nat) % 256
def pack_Number.f (a0 a1 : Int) : Option (ByteArray) := if a1 < 1 then some (⟨#[]⟩ : ByteArray) else if 8 < a1 then some (⟨#[]⟩ : ByteArray) else some (strOfNums (numL a0 a1.toNat))
theorem conv_arr (P : Program) (src dst e T : TypeId) (hs : P.underlying src = some (.slice e)) (he : P.underlying e = some (.int .u8)) (hd : P.underlying dst = some .string) (w : World) (xs : List Int) (n c : Nat) (hn : n ≤ xs.length) :
  (convert src dst (.slice (some ⟨w.heap.size, 0, none⟩) n c)).run P (w.alloc (.cells (xs.map (Value.int .u8)).toArray T)) = .ok (.string (strOfNums (xs.take n))) (w.alloc (.cells (xs.map (Value.int .u8)).toArray T)) := by
 refine run_convert_bytes_arg _ src e hs he w.heap.size 0 n c (xs.take n) (by simp; omega) (fun i hi => ?_) dst hd
 rw [Nat.zero_add]
 have hlt : i < xs.length := by omega
 rw [World.cell?_alloc_at (hn := rfl)]
 simp [hi, hlt]
theorem pack_Number.none_ (a0 a1 : Int) (h : a1 < 1 ∨ 8 < a1) (w : World) :
  Calls Try.prog 59 #[.int .u64 a0, .int .i64 a1] w fun e w' => e = .returned (.string ⟨#[]⟩) ∧ Below w.heap.size w w' := by
 rcases h with h | h
 ·have b1 : decide (a1 < 1) = true := decide_eq_true h
  go_enter Try.func59, Try.ntmps59
  go_wp2
  go_ret
  exact ⟨rfl, Below.refl _ _⟩
 ·have b1 : decide (a1 < 1) = false := decide_eq_false (by omega)
  have b2 : decide (8 < a1) = true := decide_eq_true h
  go_enter Try.func59, Try.ntmps59
  go_wp2
  go_ret
  exact ⟨rfl, Below.refl _ _⟩
set_option maxHeartbeats 4000000 in
theorem pack_Number.some_ (a0 : Int) (n : Nat) (h1 : 1 ≤ n) (h8 : n ≤ 8) (w : World) :
  Calls Try.prog 59 #[.int .u64 a0, .int .i64 (n : Int)] w fun e w' => e = .returned (.string (strOfNums (numL a0 n))) ∧ Below w.heap.size w w' := by
 have hcv := fun x0 x1 x2 x3 x4 x5 x6 x7 m (hm : m ≤ [x0, x1, x2, x3, x4, x5, x6, x7].length) => conv_arr Try.prog 91 9 5 161 Try.underlying91 Try.underlying5 Try.underlying9 w [x0, x1, x2, x3, x4, x5, x6, x7] m 8 hm
 simp only [List.map_cons, List.map_nil] at hcv
 obtain rfl | rfl | rfl | rfl | rfl | rfl | rfl | rfl : n = 1 ∨ n = 2 ∨ n = 3 ∨ n = 4 ∨ n = 5 ∨ n = 6 ∨ n = 7 ∨ n = 8 := by omega
 ·replace hcv := fun x0 x1 x2 x3 x4 x5 x6 x7 => hcv x0 x1 x2 x3 x4 x5 x6 x7 1 (by simp)
  simp only [List.take] at hcv
  go_enter Try.func59, Try.ntmps59
  go_wp2
  refine wp_loop_rounds 2 ?_
  iterate 2 (rw [rounds_succ]; go_wp2)
  go_ret
  exact ⟨by simp [numL, List.range, List.range.loop], (Below.refl _ _).alloc (Nat.le_refl _) _⟩
 ·replace hcv := fun x0 x1 x2 x3 x4 x5 x6 x7 => hcv x0 x1 x2 x3 x4 x5 x6 x7 2 (by simp)
  simp only [List.take] at hcv
  go_enter Try.func59, Try.ntmps59
  go_wp2
  refine wp_loop_rounds 3 ?_
  iterate 3 (rw [rounds_succ]; go_wp2)
  go_ret
  exact ⟨by simp [numL, List.range, List.range.loop], (Below.refl _ _).alloc (Nat.le_refl _) _⟩
 ·replace hcv := fun x0 x1 x2 x3 x4 x5 x6 x7 => hcv x0 x1 x2 x3 x4 x5 x6 x7 3 (by simp)
  simp only [List.take] at hcv
  go_enter Try.func59, Try.ntmps59
  go_wp2
  refine wp_loop_rounds 4 ?_
  iterate 4 (rw [rounds_succ]; go_wp2)
  go_ret
  exact ⟨by simp [numL, List.range, List.range.loop], (Below.refl _ _).alloc (Nat.le_refl _) _⟩
 ·replace hcv := fun x0 x1 x2 x3 x4 x5 x6 x7 => hcv x0 x1 x2 x3 x4 x5 x6 x7 4 (by simp)
  simp only [List.take] at hcv
  go_enter Try.func59, Try.ntmps59
  go_wp2
  refine wp_loop_rounds 5 ?_
  iterate 5 (rw [rounds_succ]; go_wp2)
  go_ret
  exact ⟨by simp [numL, List.range, List.range.loop], (Below.refl _ _).alloc (Nat.le_refl _) _⟩
 ·replace hcv := fun x0 x1 x2 x3 x4 x5 x6 x7 => hcv x0 x1 x2 x3 x4 x5 x6 x7 5 (by simp)
  simp only [List.take] at hcv
  go_enter Try.func59, Try.ntmps59
  go_wp2
  refine wp_loop_rounds 6 ?_
  iterate 6 (rw [rounds_succ]; go_wp2)
  go_ret
  exact ⟨by simp [numL, List.range, List.range.loop], (Below.refl _ _).alloc (Nat.le_refl _) _⟩
 ·replace hcv := fun x0 x1 x2 x3 x4 x5 x6 x7 => hcv x0 x1 x2 x3 x4 x5 x6 x7 6 (by simp)
  simp only [List.take] at hcv
  go_enter Try.func59, Try.ntmps59
  go_wp2
  refine wp_loop_rounds 7 ?_
  iterate 7 (rw [rounds_succ]; go_wp2)
  go_ret
  exact ⟨by simp [numL, List.range, List.range.loop], (Below.refl _ _).alloc (Nat.le_refl _) _⟩
 ·replace hcv := fun x0 x1 x2 x3 x4 x5 x6 x7 => hcv x0 x1 x2 x3 x4 x5 x6 x7 7 (by simp)
  simp only [List.take] at hcv
  go_enter Try.func59, Try.ntmps59
  go_wp2
  refine wp_loop_rounds 8 ?_
  iterate 8 (rw [rounds_succ]; go_wp2)
  go_ret
  exact ⟨by simp [numL, List.range, List.range.loop], (Below.refl _ _).alloc (Nat.le_refl _) _⟩
 ·replace hcv := fun x0 x1 x2 x3 x4 x5 x6 x7 => hcv x0 x1 x2 x3 x4 x5 x6 x7 8 (by simp)
  simp only [List.take] at hcv
  go_enter Try.func59, Try.ntmps59
  go_wp2
  refine wp_loop_rounds 9 ?_
  iterate 9 (rw [rounds_succ]; go_wp2)
  go_ret
  exact ⟨by simp [numL, List.range, List.range.loop], (Below.refl _ _).alloc (Nat.le_refl _) _⟩
theorem pack_Number.calls (a0 : Int) (a1 : Int) (r : ByteArray) (w : World) (h : pack_Number.f a0 a1 = some r) :
  Calls Try.prog 59 #[.int .u64 a0, .int .i64 a1] w fun e w' => e = .returned (.string r) ∧ Below w.heap.size w w' := by
 unfold pack_Number.f at h
 by_cases c1 : a1 < 1
 ·rw [if_pos c1] at h
  obtain rfl := Option.some.inj h
  exact pack_Number.none_ a0 a1 (.inl c1) w
 ·rw [if_neg c1] at h
  by_cases c2 : 8 < a1
  ·rw [if_pos c2] at h
   obtain rfl := Option.some.inj h
   exact pack_Number.none_ a0 a1 (.inr c2) w
  ·rw [if_neg c2] at h
   obtain rfl := Option.some.inj h
   obtain ⟨n, rfl⟩ := Int.eq_ofNat_of_zero_le (show 0 ≤ a1 by omega)
   rw [Int.toNat_natCast]
   exact pack_Number.some_ a0 n (by omega) (by omega) w
def pack_Vary.l0 : Nat → Int → List Int → Option (ByteArray)
 | 0, _, _ => none
 | k + 1, x0, x3 => if x0 ≥ 128 then (if x3.length < 140737488355328 then (pack_Vary.l0 k (x0 / 128) (x3 ++ [Go.bits .or .u8 ((x0) % 256) 128])) else (none)) else (if x3.length < 140737488355328 then (some (strOfNums (x3 ++ [(x0) % 256]))) else (none))
def pack_Vary.f (k : Nat) (a0 : Int) : Option (ByteArray) := pack_Vary.l0 k a0 ([] : List Int)
set_option maxHeartbeats 8000000 in
set_option maxRecDepth 100000 in
theorem pack_Vary.calls (k : Nat) (a0 : Int) (r : ByteArray) (w : World) (h : pack_Vary.f k a0 = some r) :
  Calls Try.prog 60 #[.int .u64 a0] w fun e w' => e = .returned (.string r) ∧ Below w.heap.size w w' := by
 have HB := Aside0.mk (Below.refl w.heap.size w)
 have H : (pack_Vary.l0 k a0 ([] : List Int)) = some r := h
 clear h
 have H' := Aside0.mk H
 clear H
 go_enter Try.func60, Try.ntmps60
 go_wp2
 go_loopg [0, 3] k (fun kq v0 v3 w' => ∃ (x0_1 : Int) (x3_1 : List Int), v0 = .int .u64 x0_1 ∧ Aside0 (pack_Vary.l0 kq x0_1 x3_1 = some r) ∧ Aside0 (kq ≤ k) ∧ Aside0 (Kd.R (Kd.int .u8) 5 w' w.heap.size (fun _ => True) v3 x3_1) ∧ Aside0 (Below w.heap.size w w'))
 case atStart => exact ⟨(a0), (([] : List Int)), (by first | rfl | (simp; done) | (simp [*]; done)), H', ⟨Nat.le_refl _⟩, ⟨by first | exact Kd.R_nil _ _ _ _ _ | exact Kd.N_nil _ _ _ _ _ | exact Kd.V_nil _ _ _ _ _ | exact Kd.Q_nil _ _ _ _ _ | exact Kd.S_nil _ _ _ _ _⟩, ⟨Ky_ HB⟩⟩
 case round =>
  clear H'
  obtain ⟨x0_1, x3_1, rfl, HA, HK1, HO_3, HB⟩ := hrel
  cases gk with
  | zero => exact absurd HA.out (by simp [pack_Vary.l0])
  | succ k1 =>
   have H := HA.out
   clear HA
   simp only [pack_Vary.l0] at H
   by_cases c2 : x0_1 ≥ 128
   rotate_left
   ·rw [if_neg c2] at H
    have c2b0 : decide (128 ≤ x0_1) = false := decide_eq_false c2
    clear c2
    by_cases c5 : x3_1.length < 140737488355328
    rotate_left
    ·rw [if_neg c5] at H
     exact absurd H (by simp)
    rw [if_pos c5] at H
    have LMc5 := Aside0.mk c5
    clear c5
    obtain ⟨y133, hy133⟩ : ∃ y_ : List Int, y_ = (x3_1 ++ [(x0_1) % 256]) := ⟨_, rfl⟩
    replace H : (some (strOfNums y133)) = some r := by first | (rw [hy133]; with_reducible exact H) | (have H2_ := (Option.bind_some _ _).symm.trans H; rw [hy133]; with_reducible exact H2_) | (have H2_ := (Option.bind_some _ _).symm.trans H; with_reducible exact H2_) | with_reducible exact H | (rw [hy133]; exact H) | exact H
    have Ny133 := Aside0.mk hy133
    clear hy133
    obtain rfl := Option.some.inj H
    go_wp2_with (first | ((with_reducible refine gate_builtin (b := .append) (xs := #[.tmp 14, .tmp 17]) rfl ?_); at_builtin; refine Kd.R_append (Kd.int .u8) (w0 := w) w.heap.size rfl (.tmp 14) (.tmp 17) 91 5 (.int .u8 0) 1 rfl Try.underlying91 info5 rfl (by decide) (by omega) u3 x3_1 ((x0_1) % 256) [.int .u8 ((x0_1) % 256)] (fun _ => True) (fun _ => False) rfl rfl ?aP (fun _ hk => hk.elim) ?aF ?aO ?aB ?aS ?aL ?_; (case aP => exact rfl); (case aB => exact (Ky_ HB)); (case aF => exact (fun _ _ => trivial)); (case aO => exact (Ku_ HO_3)); (case aS => exact (below_size (Ky_ HB))); (case aL => have := LMc5.out; omega); intro v134 w6 ho hb hg hat; rw [← Ny133.out] at ho; have HO135 := Aside0.mk (ho); replace HB := Aside0.mk (hb); clear HO_3; clear ho hb hg hat; have hcv7 := own_string (P := Try.prog) Try.underlying91 Try.underlying5 Try.underlying9 (Kd.own_of_R HO135.out)))
    go_ret
    exact ⟨Kh_, Ky_ HB⟩
   rw [if_pos c2] at H
   have c2b0 : decide (128 ≤ x0_1) = true := decide_eq_true c2
   clear c2
   by_cases c3 : x3_1.length < 140737488355328
   rotate_left
   ·rw [if_neg c3] at H
    exact absurd H (by simp)
   rw [if_pos c3] at H
   have LMc3 := Aside0.mk c3
   clear c3
   obtain ⟨y130, hy130⟩ : ∃ y_ : List Int, y_ = (x3_1 ++ [Go.bits .or .u8 ((x0_1) % 256) 128]) := ⟨_, rfl⟩
   replace H : (pack_Vary.l0 k1 (x0_1 / 128) y130) = some r := by first | (rw [hy130]; with_reducible exact H) | (have H2_ := (Option.bind_some _ _).symm.trans H; rw [hy130]; with_reducible exact H2_) | (have H2_ := (Option.bind_some _ _).symm.trans H; with_reducible exact H2_) | with_reducible exact H | (rw [hy130]; exact H) | exact H
   have Ny130 := Aside0.mk hy130
   clear hy130
   have H' := Aside0.mk H
   clear H
   go_wp2_with (first | ((with_reducible refine gate_builtin (b := .append) (xs := #[.tmp 8, .tmp 12]) rfl ?_); at_builtin; refine Kd.R_append (Kd.int .u8) (w0 := w) w.heap.size rfl (.tmp 8) (.tmp 12) 91 5 (.int .u8 0) 1 rfl Try.underlying91 info5 rfl (by decide) (by omega) u3 x3_1 (Go.bits .or .u8 ((x0_1) % 256) 128) [.int .u8 (Go.bits .or .u8 ((x0_1) % 256) 128)] (fun _ => True) (fun _ => False) rfl rfl ?aP (fun _ hk => hk.elim) ?aF ?aO ?aB ?aS ?aL ?_; (case aP => exact rfl); (case aB => exact (Ky_ HB)); (case aF => exact (fun _ _ => trivial)); (case aO => exact (Ku_ HO_3)); (case aS => exact (below_size (Ky_ HB))); (case aL => have := LMc3.out; omega); intro v131 w4 ho hb hg hat; rw [← Ny130.out] at ho; have HO132 := Aside0.mk (ho); replace HB := Aside0.mk (hb); clear HO_3; clear ho hb hg hat))
   go_roundg k1
   case measure => have := HK1.out; omega
   case rel => exact ⟨(x0_1 / 128), (y130), (by first | rfl | (simp; done) | (simp [*]; done)), H', ⟨by have := HK1.out; omega⟩, ⟨by (with_reducible repeat (first | apply Kd.R_alloc | apply Kd.R_drewN | apply Kd.R_drew)); exact HO132.out⟩, ⟨Ky_ HB⟩⟩
def pack_Text.f (k : Nat) (a0 : ByteArray) : Option (ByteArray) := if a0.size ≤ 9223372036854775807 then ((pack_Vary.f k (a0.size : Int)).bind fun t136 => (if t136.size + a0.size ≤ 9223372036854775807 then (some (t136 ++ a0)) else (none))) else (none)
set_option maxHeartbeats 8000000 in
set_option maxRecDepth 100000 in
theorem pack_Text.calls (k : Nat) (a0 : ByteArray) (r : ByteArray) (w : World) (h : pack_Text.f k a0 = some r) :
  Calls Try.prog 62 #[.string a0] w fun e w' => e = .returned (.string r) ∧ Below w.heap.size w w' := by
 have HB := Aside0.mk (Below.refl w.heap.size w)
 have H : (if a0.size ≤ 9223372036854775807 then ((pack_Vary.f k (a0.size : Int)).bind fun t136 => (if t136.size + a0.size ≤ 9223372036854775807 then (some (t136 ++ a0)) else (none))) else (none)) = some r := h
 (try (have Hs_ := H; simp only [ByteArray.size_append, Int.natCast_add] at Hs_))
 clear h
 by_cases c2 : a0.size ≤ 9223372036854775807
 rotate_left
 ·rw [if_neg c2] at H
  exact absurd H (by simp)
 rw [if_pos c2] at H
 have c2b0 := eq_true c2
 have c2b1 : decide (a0.size ≤ 9223372036854775807) = true := decide_eq_true c2
 try have c2b2 : (9223372036854775807 < a0.size) = False := eq_false (Nat.not_lt.2 c2)
 replace H := Option.bind_eq_some_iff.mp H
 obtain ⟨t136, A30, H⟩ := H
 replace H : (if t136.size + a0.size ≤ 9223372036854775807 then (some (t136 ++ a0)) else (none)) = some r := H
 have A3 := Aside0.mk A30
 clear A30
 by_cases c4 : t136.size + a0.size ≤ 9223372036854775807
 rotate_left
 ·rw [if_neg c4] at H
  exact absurd H (by simp)
 rw [if_pos c4] at H
 have c4b0 := eq_true c4
 have c4b1 : decide (t136.size + a0.size ≤ 9223372036854775807) = true := decide_eq_true c4
 try have c4b2 : (9223372036854775807 < t136.size + a0.size) = False := eq_false (Nat.not_lt.2 c4)
 obtain rfl := Option.some.inj H
 go_enter Try.func62, Try.ntmps62
 go_wp2_with (first | ((with_reducible refine gate_callee (f := 60) rfl ?_); refine Kg_ (some 6) rfl rfl Try.func60 (by kernel_rfl) rfl #[.int .u64 (a0.size : Int)] rfl ?_; (with_reducible refine (pack_Vary.calls k (a0.size : Int) t136 _ A3.out).mono ?_); rintro e w5 ⟨rfl, hb⟩; refine ⟨_, rfl, ?_⟩; replace HB := Ks_ HB hb; (try clear hb); (try clear hb2); (try clear hk); (try clear hi)))
 go_ret
 exact ⟨Kh_, Ky_ HB⟩
def vec_Put.f (k : Nat) (a0_0 a0_1 a0_2 a0_3 : Int) : Option ByteArray :=
 (pack_Vary.f k a0_0).bind fun t0 => (pack_Vary.f k a0_1).bind fun t1 => (pack_Vary.f k a0_2).bind fun t2 => (pack_Vary.f k a0_3).bind fun t3 =>
  if t0.size + t1.size + t2.size + t3.size ≤ 9223372036854775807 then some (t0 ++ t1 ++ t2 ++ t3) else none
theorem vec_Put.at_ (xs : Array Value) (hn : xs.size = 4) (i : Nat) (v : Value) (W : World) (h : xs[i]? = some v) :
  (Instr.index 28 (.agg xs) (.int .i64 (i : Int))).run Try.prog W = .ok v W := by
 have hu := Try.underlying28
 have hi : i < 4 := by
  have := (Array.getElem?_eq_some_iff.1 h).1
  omega
 have hs : (sizeOf 26).run Try.prog W = .ok 1 W := by go_simp
 have hp : (part 26 xs i).run Try.prog W = .ok v W := by
  unfold part
  go_simp
  exact (Array.getElem?_eq_some_iff.1 h).2
 simp [Instr.index, asIntOf, Sem.run_bind, run_underlying hu, hs, hp, hi]
set_option maxHeartbeats 8000000 in
set_option maxRecDepth 100000 in
theorem vec_Put.calls (k : Nat) (a0_0 a0_1 a0_2 a0_3 : Int) (r : ByteArray) (w : World) (h : vec_Put.f k a0_0 a0_1 a0_2 a0_3 = some r) :
  Calls Try.prog 102 #[.agg #[.int .u64 a0_0, .int .u64 a0_1, .int .u64 a0_2, .int .u64 a0_3]] w fun e w' => e = .returned (.string r) ∧ Below w.heap.size w w' := by
 unfold vec_Put.f at h
 obtain ⟨t0, A0, h⟩ := Option.bind_eq_some_iff.1 h
 obtain ⟨t1, A1, h⟩ := Option.bind_eq_some_iff.1 h
 obtain ⟨t2, A2, h⟩ := Option.bind_eq_some_iff.1 h
 obtain ⟨t3, A3, h⟩ := Option.bind_eq_some_iff.1 h
 by_cases hz : t0.size + t1.size + t2.size + t3.size ≤ 9223372036854775807
 ·rw [if_pos hz] at h
  obtain rfl := Option.some.inj h
  have z0 : t0.size ≤ 9223372036854775807 := by omega
  have z1 : t0.size + t1.size ≤ 9223372036854775807 := by omega
  have z2 : t0.size + t1.size + t2.size ≤ 9223372036854775807 := by omega
  replace A0 := Aside0.mk A0
  replace A1 := Aside0.mk A1
  replace A2 := Aside0.mk A2
  replace A3 := Aside0.mk A3
  clear h
  have hu := Try.underlying28
  have hu2 := Try.underlying26
  have x0 := fun W => vec_Put.at_ #[.int .u64 a0_0, .int .u64 a0_1, .int .u64 a0_2, .int .u64 a0_3] rfl 0 (.int .u64 a0_0) W rfl
  have x1 := fun W => vec_Put.at_ #[.int .u64 a0_0, .int .u64 a0_1, .int .u64 a0_2, .int .u64 a0_3] rfl 1 (.int .u64 a0_1) W rfl
  have x2 := fun W => vec_Put.at_ #[.int .u64 a0_0, .int .u64 a0_1, .int .u64 a0_2, .int .u64 a0_3] rfl 2 (.int .u64 a0_2) W rfl
  have x3 := fun W => vec_Put.at_ #[.int .u64 a0_0, .int .u64 a0_1, .int .u64 a0_2, .int .u64 a0_3] rfl 3 (.int .u64 a0_3) W rfl
  simp only [Int.ofNat_eq_natCast, Int.cast_ofNat_Int] at x0 x1 x2 x3
  go_enter Try.func102, Try.ntmps102
  go_wp2
  generalize hW : (w.alloc (Obj.cells _ _)) = W0
  have HB : Below w.heap.size w W0 := by rw [← hW]; exact below_alloc (Below.refl _ _) _
  replace HB := Aside0.mk HB
  clear hW
  refine wp_loop_rounds 5 ?_
  rw [rounds_succ]
  go_wp2_with (go_at_call 60; refine (pack_Vary.calls k _ t0 _ A0.out).mono ?_; rintro e w1 ⟨rfl, hb⟩; have HB1 := Aside0.mk (below_step HB.out hb); clear hb)
  rw [rounds_succ]
  go_wp2_with (go_at_call 60; refine (pack_Vary.calls k _ t1 _ A1.out).mono ?_; rintro e w2 ⟨rfl, hb⟩; have HB2 := Aside0.mk (below_step HB1.out hb); clear hb)
  rw [rounds_succ]
  go_wp2_with (go_at_call 60; refine (pack_Vary.calls k _ t2 _ A2.out).mono ?_; rintro e w3 ⟨rfl, hb⟩; have HB3 := Aside0.mk (below_step HB2.out hb); clear hb)
  rw [rounds_succ]
  go_wp2_with (go_at_call 60; refine (pack_Vary.calls k _ t3 _ A3.out).mono ?_; rintro e w4 ⟨rfl, hb⟩; have HB4 := Aside0.mk (below_step HB3.out hb); clear hb)
  rw [rounds_succ]
  go_wp2
  go_ret
  exact ⟨by first | rfl | simp, HB4.out⟩
 ·rw [if_neg hz] at h
  exact absurd h (by simp)
def stamp_Put.f (k : Nat) (a0_0 : Int) (a0_1 : Int) (a0_2 : Int) (a0_3 : Int) (a0_4 : Int) : Option (ByteArray × Bool) := (stamp_Right.f a0_0 a0_1 a0_2 a0_3 a0_4).bind fun t138 => (if t138 = true then ((pack_Number.f (IntKind.u64.wrap (a0_4)) 1).bind fun t139 => ((vec_Put.f k a0_0 a0_1 a0_2 a0_3).bind fun t140 => (if t139.size + t140.size ≤ 9223372036854775807 then (some (t139 ++ t140, true)) else (none)))) else (some ((⟨#[]⟩ : ByteArray), false)))
def stamp_Put.T3 : Bool × List (List Nat × List Nat) := (true, [([], []), ([0], [0]), ([1], [1]), ([2], [2]), ([], []), ([4], [4]), ([5, 3], [5]), ([3, 6], [3, 6]), ([7, 6, 0, 1, 2, 3, 4, 5, 6, 7], [7]), ([8, 0, 1, 2, 3, 4, 5, 6, 7, 8], [])])
def stamp_Put.B3 : List Nat := [0, 1, 3, 7, 0, 16, 63, 127, 255, 511]
theorem stamp_Put.tab3 : rtab .any (opsOf Try.f88 3) = stamp_Put.T3 := by kernel_rfl
theorem stamp_Put.bits3 : waitsOk stamp_Put.T3.2 stamp_Put.B3 = true := by kernel_rfl
set_option maxHeartbeats 8000000 in
set_option maxRecDepth 100000 in
theorem stamp_Put.calls (k : Nat) (a0_0 : Int) (a0_1 : Int) (a0_2 : Int) (a0_3 : Int) (a0_4 : Int) (r1 : ByteArray) (r2 : Bool) (w : World) (h : stamp_Put.f k a0_0 a0_1 a0_2 a0_3 a0_4 = some (r1, r2)) :
  Calls Try.prog 88 #[.agg #[.int .u64 a0_0, .int .u64 a0_1, .int .u64 a0_2, .int .u64 a0_3, .int .i64 a0_4]] w fun e w' => e = .returned (.tuple #[.string r1, .bool r2]) ∧ Below w.heap.size w w' := by
 have hu30 := Try.underlying30
 have hu28 := Try.underlying28
 have HB := Aside0.mk (Below.refl w.heap.size w)
 have H : ((stamp_Right.f a0_0 a0_1 a0_2 a0_3 a0_4).bind fun t138 => (if t138 = true then ((pack_Number.f (IntKind.u64.wrap (a0_4)) 1).bind fun t139 => ((vec_Put.f k a0_0 a0_1 a0_2 a0_3).bind fun t140 => (if t139.size + t140.size ≤ 9223372036854775807 then (some (t139 ++ t140, true)) else (none)))) else (some ((⟨#[]⟩ : ByteArray), false)))) = some (r1, r2) := h
 (try (have Hs_ := H; simp only [ByteArray.size_append, Int.natCast_add] at Hs_))
 clear h
 replace H := Option.bind_eq_some_iff.mp H
 obtain ⟨t138, A20, H⟩ := H
 replace H : (if t138 = true then ((pack_Number.f (IntKind.u64.wrap (a0_4)) 1).bind fun t139 => ((vec_Put.f k a0_0 a0_1 a0_2 a0_3).bind fun t140 => (if t139.size + t140.size ≤ 9223372036854775807 then (some (t139 ++ t140, true)) else (none)))) else (some ((⟨#[]⟩ : ByteArray), false))) = some (r1, r2) := H
 have A2 := Aside0.mk A20
 clear A20
 by_cases c3 : t138 = true
 rotate_left
 ·replace c3 := Bool.eq_false_iff.mpr c3
  subst c3
  have H1 : (some ((⟨#[]⟩ : ByteArray), false)) = some (r1, r2) := by rw [if_neg (show ¬ (false = true) by decide)] at H; exact H
  clear H
  have H := H1
  clear H1
  simp only [Option.some.injEq, Prod.mk.injEq] at H
  obtain ⟨rfl, rfl⟩ := H
  go_enter Try.func88, Try.ntmps88
  go_wp2_with (first | ((with_reducible refine gate_dst (N := 1) rfl ?_); refine Ka_ 1 #[.int .u64 a0_0, .int .u64 a0_1, .int .u64 a0_2, .int .u64 a0_3, .int .i64 a0_4] 30 ?_; intro gb137 hg w13 hbox hb; have BK137 := Aside0.mk (hbox); have GW137 := Kw_ HB hg; have GE137 := GW137; replace HB := Ks_ HB hb; clear hb hbox hg; obtain ⟨hcz14_0, hcz14_1, hcz14_2, hcz14_3, hcz14_4, hfz14_0, hfz14_1, hfz14_2, hfz14_3, hfz14_4⟩ := Ke5_ BK137.out) | ((with_reducible refine gate_callee (f := 69) rfl ?_); refine Kg_ (some 5) rfl rfl Try.func69 (by kernel_rfl) rfl #[.agg #[.int .u64 a0_0, .int .u64 a0_1, .int .u64 a0_2, .int .u64 a0_3, .int .i64 a0_4]] rfl ?_; (with_reducible refine (stamp_Right.calls a0_0 a0_1 a0_2 a0_3 a0_4 false _ A2.out).mono ?_); rintro e w15 ⟨rfl, hb⟩; refine ⟨_, rfl, ?_⟩; replace BK137 := Kb_ BK137 hb; replace HB := Ks_ HB hb; (try clear hb); (try clear hb2); (try clear hk); (try clear hi)))
  go_ret2
  exact ⟨Kh_, Kz_ HB GE137⟩
 subst c3
 have H1 : ((pack_Number.f (IntKind.u64.wrap (a0_4)) 1).bind fun t139 => ((vec_Put.f k a0_0 a0_1 a0_2 a0_3).bind fun t140 => (if t139.size + t140.size ≤ 9223372036854775807 then (some (t139 ++ t140, true)) else (none)))) = some (r1, r2) := by rw [if_pos rfl] at H; exact H
 clear H
 have H := H1
 clear H1
 replace H := Option.bind_eq_some_iff.mp H
 obtain ⟨t139, A40, H⟩ := H
 replace H : ((vec_Put.f k a0_0 a0_1 a0_2 a0_3).bind fun t140 => (if t139.size + t140.size ≤ 9223372036854775807 then (some (t139 ++ t140, true)) else (none))) = some (r1, r2) := H
 have A4 := Aside0.mk A40
 clear A40
 replace H := Option.bind_eq_some_iff.mp H
 obtain ⟨t140, A50, H⟩ := H
 replace H : (if t139.size + t140.size ≤ 9223372036854775807 then (some (t139 ++ t140, true)) else (none)) = some (r1, r2) := H
 have A5 := Aside0.mk A50
 clear A50
 by_cases c6 : t139.size + t140.size ≤ 9223372036854775807
 rotate_left
 ·rw [if_neg c6] at H
  exact absurd H (by simp)
 rw [if_pos c6] at H
 have c6b0 := eq_true c6
 have c6b1 : decide (t139.size + t140.size ≤ 9223372036854775807) = true := decide_eq_true c6
 try have c6b2 : (9223372036854775807 < t139.size + t140.size) = False := eq_false (Nat.not_lt.2 c6)
 simp only [Option.some.injEq, Prod.mk.injEq] at H
 obtain ⟨rfl, rfl⟩ := H
 go_enter Try.func88, Try.ntmps88
 try go_wp2_with (first | ((with_reducible refine gate_dst (N := 1) rfl ?_); refine Ka_ 1 #[.int .u64 a0_0, .int .u64 a0_1, .int .u64 a0_2, .int .u64 a0_3, .int .i64 a0_4] 30 ?_; intro gb137 hg w7 hbox hb; have BK137 := Aside0.mk (hbox); have GW137 := Kw_ HB hg; have GE137 := GW137; replace HB := Ks_ HB hb; clear hb hbox hg; obtain ⟨hcz8_0, hcz8_1, hcz8_2, hcz8_3, hcz8_4, hfz8_0, hfz8_1, hfz8_2, hfz8_3, hfz8_4⟩ := Ke5_ BK137.out) | ((with_reducible refine gate_callee (f := 69) rfl ?_); refine Kg_ (some 5) rfl rfl Try.func69 (by kernel_rfl) rfl #[.agg #[.int .u64 a0_0, .int .u64 a0_1, .int .u64 a0_2, .int .u64 a0_3, .int .i64 a0_4]] rfl ?_; (with_reducible refine (stamp_Right.calls a0_0 a0_1 a0_2 a0_3 a0_4 true _ A2.out).mono ?_); rintro e w9 ⟨rfl, hb⟩; refine ⟨_, rfl, ?_⟩; replace BK137 := Kb_ BK137 hb; replace HB := Ks_ HB hb; (try clear hb); (try clear hb2); (try clear hk); (try clear hi)))
 replace BK137 := Kd_ BK137
 replace HB := Aside0.mk (below_drew1 HB.out)
 refine start_ (n := 10) (S := fun w' => w'.cell? ⟨gb137, 0, none⟩ = some (.int .u64 a0_0) ∧ w'.cell? ⟨gb137, 1, none⟩ = some (.int .u64 a0_1) ∧ w'.cell? ⟨gb137, 2, none⟩ = some (.int .u64 a0_2) ∧ w'.cell? ⟨gb137, 3, none⟩ = some (.int .u64 a0_3) ∧ w'.cell? ⟨gb137, 4, none⟩ = some (.int .i64 a0_4)) (ds := []) (mB_ 10 0) (by kernel_rfl) rfl rfl (Kc5_ BK137.out) (fun hHeld => ?_); refine with_tabW stamp_Put.tab3 stamp_Put.bits3 (fun HT_ HW_ => ?_)
 generalize w9.drew = w10 at BK137 HB hHeld ⊢
 refine Kp_ 0 7 (mB_ 10 1) (any_of HT_.out (by kernel_rfl)) ?_
 refine Kp_ 4 11 (mB_ 10 17) (any_of HT_.out (by kernel_rfl)) ?_
 refine Ko_ 1 8 (mB_ 10 19) (take_ofW HT_.out HW_.out (by kernel_rfl)) hHeld ?_
 refine Kp_ 2 9 (mB_ 10 23) (any_of HT_.out (by kernel_rfl)) ?_
 refine Ko_ 5 12 (mB_ 10 55) (take_ofW HT_.out HW_.out (by kernel_rfl)) hHeld ?_
 refine one_ (i := 3) (N := some 10) (mB_ 10 63) rfl rfl (one_of HT_.out (by kernel_rfl)) (by decide) (fun K hK => ?_)
 refine goes_ Try.func59 (by kernel_rfl) rfl #[.int .u64 (IntKind.u64.wrap (a0_4)), .int .i64 1] (by rfl) rfl rfl (by (try simp only [List.map_toArray, List.map_cons, List.map_nil]); first | done | rfl | (simp only [List.length_drop, List.length_take]; rfl)) ?_
 with_reducible refine (pack_Number.calls (IntKind.u64.wrap (a0_4)) 1 t139 _ A4.out).mono ?_
 rintro e w11 ⟨rfl, hb⟩
 refine ⟨_, rfl, ?_⟩
 replace BK137 := Kb_ BK137 hb
 replace HB := Ks_ HB hb
 (try clear hb)
 (try clear hb2)
 (try clear hk)
 (try clear hi)
 refine hK.out _ _ (Kc5_ BK137.out) (fun hHeld => ?_)
 clear hK K
 refine Kn_ 10 ?_
 refine one_ (i := 6) (N := some 13) (mB_ 10 127) rfl rfl (one_of HT_.out (by kernel_rfl)) (by decide) (fun K hK => ?_)
 refine goes_ Try.func102 (by kernel_rfl) rfl #[.agg #[.int .u64 a0_0, .int .u64 a0_1, .int .u64 a0_2, .int .u64 a0_3]] (by rfl) rfl rfl (by (try simp only [List.map_toArray, List.map_cons, List.map_nil]); first | done | rfl | (simp only [List.length_drop, List.length_take]; rfl)) ?_
 with_reducible refine (vec_Put.calls k a0_0 a0_1 a0_2 a0_3 t140 _ A5.out).mono ?_
 rintro e w12 ⟨rfl, hb⟩
 refine ⟨_, rfl, ?_⟩
 replace BK137 := Kb_ BK137 hb
 replace HB := Ks_ HB hb
 (try clear hb)
 (try clear hb2)
 (try clear hk)
 (try clear hi)
 refine hK.out _ _ (Kc5_ BK137.out) (fun hHeld => ?_)
 clear hK K
 refine Kn_ 13 ?_
 refine Kp_ 7 14 (mB_ 10 255) (any_of HT_.out (by kernel_rfl)) ?_
 refine Kp_ 8 2 (mB_ 10 511) (any_of HT_.out (by kernel_rfl)) ?_
 refine Kp_ 9 3 (mB_ 10 1023) (any_of HT_.out (by kernel_rfl)) ?_
 refine done_ (done_of HT_.out (by kernel_rfl)) ?_
 try go_wp2
 go_ret2
 exact ⟨Kh_, Kz_ HB GE137⟩
def item_Bytes.l0 : Nat → ByteArray → List (S107) → Int → Int → Option (ByteArray × Bool)
 | 0, _, _, _, _ => none
 | k + 1, x4, x25, x26, x27 => if x27 < x26 then (if 0 ≤ x27 then (if x27 < (x25.length : Int) then ((pack_Text.f k ((rd_T107 x25 x27).f0)).bind fun t148 => ((pack_Text.f k ((rd_T107 x25 x27).f1)).bind fun t149 => (if t148.size + t149.size ≤ 9223372036854775807 then (if x4.size + (t148 ++ t149).size ≤ 9223372036854775807 then (if (rd_T107 x25 x27).f3 = true then ((pack_Number.f 1 1).bind fun t150 => (if (x4 ++ (t148 ++ t149)).size + t150.size ≤ 9223372036854775807 then (item_Bytes.l0 k ((x4 ++ (t148 ++ t149)) ++ t150) x25 x26 (wrap64 (x27 + 1))) else (none))) else ((pack_Number.f 0 1).bind fun t151 => ((pack_Text.f k ((rd_T107 x25 x27).f2)).bind fun t152 => (if t151.size + t152.size ≤ 9223372036854775807 then (if (x4 ++ (t148 ++ t149)).size + (t151 ++ t152).size ≤ 9223372036854775807 then (item_Bytes.l0 k ((x4 ++ (t148 ++ t149)) ++ (t151 ++ t152)) x25 x26 (wrap64 (x27 + 1))) else (none)) else (none))))) else (none)) else (none)))) else (none)) else (none)) else (some (x4, true))
def item_Bytes.f (k : Nat) (a0_0 : Int) (a0_1 : Int) (a0_2 : Int) (a0_3 : Int) (a0_4 : Int) (l0_5 : List (S107)) : Option (ByteArray × Bool) := (item_Whole.f a0_0 a0_1 a0_2 a0_3 a0_4 l0_5).bind fun t142 => (if t142 = true then ((stamp_Put.f k a0_0 a0_1 a0_2 a0_3 a0_4).bind fun bt143 => ((pack_Number.f (IntKind.u64.wrap ((l0_5.length : Int))) 1).bind fun t145 => (if bt143.1.size + t145.size ≤ 9223372036854775807 then (item_Bytes.l0 k (bt143.1 ++ t145) l0_5 (l0_5.length : Int) 0) else (none)))) else (some ((⟨#[]⟩ : ByteArray), false)))
def item_Bytes.T8 : Bool × List (List Nat × List Nat) := (true, [([], []), ([], []), ([1], [1]), ([2], [2]), ([], []), ([4], [4]), ([5, 3], [5]), ([3, 6], [3, 6]), ([0, 7], [0, 7]), ([8, 6, 0, 1, 2, 3, 4, 5, 6, 7, 8], [0, 8])])
def item_Bytes.B8 : List Nat := [0, 0, 2, 6, 0, 16, 62, 126, 255, 511]
theorem item_Bytes.tab8 : rtab .any (opsOf Try.f61 8) = item_Bytes.T8 := by kernel_rfl
theorem item_Bytes.bits8 : waitsOk item_Bytes.T8.2 item_Bytes.B8 = true := by kernel_rfl
def item_Bytes.T11 : Bool × List (List Nat × List Nat) := (true, [([], []), ([], []), ([], []), ([2], [2]), ([3, 1], [3]), ([1, 4], [1, 4]), ([0, 5], [0, 5]), ([6, 4, 0, 1, 2, 3, 4, 5, 6], [0, 6])])
def item_Bytes.B11 : List Nat := [0, 0, 0, 4, 14, 30, 63, 127]
theorem item_Bytes.tab11 : rtab .any (opsOf Try.f61 11) = item_Bytes.T11 := by kernel_rfl
theorem item_Bytes.bits11 : waitsOk item_Bytes.T11.2 item_Bytes.B11 = true := by kernel_rfl
set_option maxHeartbeats 8000000 in
set_option maxRecDepth 100000 in
theorem item_Bytes.calls (k : Nat) (a0_0 : Int) (a0_1 : Int) (a0_2 : Int) (a0_3 : Int) (a0_4 : Int) (A0_5 : Option Addr) (c0_5 : Nat) (l0_5 : List (S107)) (r1 : ByteArray) (r2 : Bool) (w : World) (hr0_5 : Kd.C k107 w A0_5 l0_5.length l0_5) (hc0_5 : l0_5.length ≤ c0_5) (h : item_Bytes.f k a0_0 a0_1 a0_2 a0_3 a0_4 l0_5 = some (r1, r2)) :
  Calls Try.prog 61 #[.agg #[.int .u64 a0_0, .int .u64 a0_1, .int .u64 a0_2, .int .u64 a0_3, .int .i64 a0_4, .slice A0_5 l0_5.length c0_5]] w fun e w' => e = .returned (.tuple #[.string r1, .bool r2]) ∧ Below w.heap.size w w' := by
 have hu33 := Try.underlying33
 have hu30 := Try.underlying30
 have hu107 := Try.underlying107
 have HR0_5 := Aside0.mk hr0_5
 have HC0_5 := Aside0.mk hc0_5
 clear hr0_5 hc0_5
 have HB := Aside0.mk (Below.refl w.heap.size w)
 have H : ((item_Whole.f a0_0 a0_1 a0_2 a0_3 a0_4 l0_5).bind fun t142 => (if t142 = true then ((stamp_Put.f k a0_0 a0_1 a0_2 a0_3 a0_4).bind fun bt143 => ((pack_Number.f (IntKind.u64.wrap ((l0_5.length : Int))) 1).bind fun t145 => (if bt143.1.size + t145.size ≤ 9223372036854775807 then (item_Bytes.l0 k (bt143.1 ++ t145) l0_5 (l0_5.length : Int) 0) else (none)))) else (some ((⟨#[]⟩ : ByteArray), false)))) = some (r1, r2) := h
 (try (have Hs_ := H; simp only [ByteArray.size_append, Int.natCast_add] at Hs_))
 clear h
 replace H := Option.bind_eq_some_iff.mp H
 obtain ⟨t142, A20, H⟩ := H
 replace H : (if t142 = true then ((stamp_Put.f k a0_0 a0_1 a0_2 a0_3 a0_4).bind fun bt143 => ((pack_Number.f (IntKind.u64.wrap ((l0_5.length : Int))) 1).bind fun t145 => (if bt143.1.size + t145.size ≤ 9223372036854775807 then (item_Bytes.l0 k (bt143.1 ++ t145) l0_5 (l0_5.length : Int) 0) else (none)))) else (some ((⟨#[]⟩ : ByteArray), false))) = some (r1, r2) := H
 have A2 := Aside0.mk A20
 clear A20
 by_cases c3 : t142 = true
 rotate_left
 ·replace c3 := Bool.eq_false_iff.mpr c3
  subst c3
  have H1 : (some ((⟨#[]⟩ : ByteArray), false)) = some (r1, r2) := by rw [if_neg (show ¬ (false = true) by decide)] at H; exact H
  clear H
  have H := H1
  clear H1
  simp only [Option.some.injEq, Prod.mk.injEq] at H
  obtain ⟨rfl, rfl⟩ := H
  go_enter Try.func61, Try.ntmps61
  go_wp2_with (first | ((with_reducible refine gate_dst (N := 1) rfl ?_); refine Ka_ 1 #[.int .u64 a0_0, .int .u64 a0_1, .int .u64 a0_2, .int .u64 a0_3, .int .i64 a0_4, .slice A0_5 l0_5.length c0_5] 33 ?_; intro gb141 hg w50 hbox hb; have BK141 := Aside0.mk (hbox); have GW141 := Kw_ HB hg; have GE141 := GW141; replace HB := Ks_ HB hb; clear hb hbox hg; obtain ⟨hcz51_0, hcz51_1, hcz51_2, hcz51_3, hcz51_4, hcz51_5, hfz51_0, hfz51_1, hfz51_2, hfz51_3, hfz51_4, hfz51_5⟩ := Ke6_ BK141.out) | ((with_reducible refine gate_callee (f := 73) rfl ?_); refine Kg_ (some 9) rfl rfl Try.func73 (by kernel_rfl) rfl #[.agg #[.int .u64 a0_0, .int .u64 a0_1, .int .u64 a0_2, .int .u64 a0_3, .int .i64 a0_4, .slice A0_5 l0_5.length c0_5]] rfl ?_; (with_reducible refine (item_Whole.calls a0_0 a0_1 a0_2 a0_3 a0_4 _ _ l0_5 false _ ?side1 ?side2 A2.out).mono ?_); (case side1 => repeat (first | exact (Kd.C_below HR0_5.out HB.out) | (with_reducible refine Kd.C_alloc ?_ _) | (with_reducible refine Kd.C_drewN ?_ _) | (with_reducible refine Kd.C_drew ?_))); (case side2 => exact HC0_5.out); rintro e w52 ⟨rfl, hb⟩; refine ⟨_, rfl, ?_⟩; replace BK141 := Kb_ BK141 hb; replace HB := Ks_ HB hb; (try clear hb); (try clear hb2); (try clear hk); (try clear hi)))
  go_ret2
  exact ⟨Kh_, Kz_ HB GE141⟩
 subst c3
 have H1 : ((stamp_Put.f k a0_0 a0_1 a0_2 a0_3 a0_4).bind fun bt143 => ((pack_Number.f (IntKind.u64.wrap ((l0_5.length : Int))) 1).bind fun t145 => (if bt143.1.size + t145.size ≤ 9223372036854775807 then (item_Bytes.l0 k (bt143.1 ++ t145) l0_5 (l0_5.length : Int) 0) else (none)))) = some (r1, r2) := by rw [if_pos rfl] at H; exact H
 clear H
 have H := H1
 clear H1
 replace H := Option.bind_eq_some_iff.mp H
 obtain ⟨⟨t143, t144⟩, A40, H⟩ := H
 replace H : ((pack_Number.f (IntKind.u64.wrap ((l0_5.length : Int))) 1).bind fun t145 => (if t143.size + t145.size ≤ 9223372036854775807 then (item_Bytes.l0 k (t143 ++ t145) l0_5 (l0_5.length : Int) 0) else (none))) = some (r1, r2) := H
 have A4 := Aside0.mk A40
 clear A40
 replace H := Option.bind_eq_some_iff.mp H
 obtain ⟨t145, A50, H⟩ := H
 replace H : (if t143.size + t145.size ≤ 9223372036854775807 then (item_Bytes.l0 k (t143 ++ t145) l0_5 (l0_5.length : Int) 0) else (none)) = some (r1, r2) := H
 have A5 := Aside0.mk A50
 clear A50
 by_cases c6 : t143.size + t145.size ≤ 9223372036854775807
 rotate_left
 ·rw [if_neg c6] at H
  exact absurd H (by simp)
 rw [if_pos c6] at H
 have c6b0 := eq_true c6
 have c6b1 : decide (t143.size + t145.size ≤ 9223372036854775807) = true := decide_eq_true c6
 try have c6b2 : (9223372036854775807 < t143.size + t145.size) = False := eq_false (Nat.not_lt.2 c6)
 have H' := Aside0.mk H
 clear H
 go_enter Try.func61, Try.ntmps61
 go_wp2_with (first | ((with_reducible refine gate_dst (N := 1) rfl ?_); refine Ka_ 1 #[.int .u64 a0_0, .int .u64 a0_1, .int .u64 a0_2, .int .u64 a0_3, .int .i64 a0_4, .slice A0_5 l0_5.length c0_5] 33 ?_; intro gb141 hg w7 hbox hb; have BK141 := Aside0.mk (hbox); have GW141 := Kw_ HB hg; have GE141 := GW141; replace HB := Ks_ HB hb; clear hb hbox hg; obtain ⟨hcz8_0, hcz8_1, hcz8_2, hcz8_3, hcz8_4, hcz8_5, hfz8_0, hfz8_1, hfz8_2, hfz8_3, hfz8_4, hfz8_5⟩ := Ke6_ BK141.out) | ((with_reducible refine gate_callee (f := 73) rfl ?_); refine Kg_ (some 9) rfl rfl Try.func73 (by kernel_rfl) rfl #[.agg #[.int .u64 a0_0, .int .u64 a0_1, .int .u64 a0_2, .int .u64 a0_3, .int .i64 a0_4, .slice A0_5 l0_5.length c0_5]] rfl ?_; (with_reducible refine (item_Whole.calls a0_0 a0_1 a0_2 a0_3 a0_4 _ _ l0_5 true _ ?side1 ?side2 A2.out).mono ?_); (case side1 => repeat (first | exact (Kd.C_below HR0_5.out HB.out) | (with_reducible refine Kd.C_alloc ?_ _) | (with_reducible refine Kd.C_drewN ?_ _) | (with_reducible refine Kd.C_drew ?_))); (case side2 => exact HC0_5.out); rintro e w9 ⟨rfl, hb⟩; refine ⟨_, rfl, ?_⟩; replace BK141 := Kb_ BK141 hb; replace HB := Ks_ HB hb; (try clear hb); (try clear hb2); (try clear hk); (try clear hi); obtain ⟨hcz10_0, hcz10_1, hcz10_2, hcz10_3, hcz10_4, hcz10_5, hfz10_0, hfz10_1, hfz10_2, hfz10_3, hfz10_4, hfz10_5⟩ := Ke6_ BK141.out) | ((with_reducible refine gate_callee (f := 88) rfl ?_); refine Kg_ (some 14) rfl rfl Try.func88 (by kernel_rfl) rfl #[.agg #[.int .u64 a0_0, .int .u64 a0_1, .int .u64 a0_2, .int .u64 a0_3, .int .i64 a0_4]] rfl ?_; (with_reducible refine (stamp_Put.calls k a0_0 a0_1 a0_2 a0_3 a0_4 t143 t144 _ A4.out).mono ?_); rintro e w11 ⟨rfl, hb⟩; refine ⟨_, rfl, ?_⟩; replace BK141 := Kb_ BK141 hb; replace HB := Ks_ HB hb; (try clear hb); (try clear hb2); (try clear hk); (try clear hi); obtain ⟨hcz12_0, hcz12_1, hcz12_2, hcz12_3, hcz12_4, hcz12_5, hfz12_0, hfz12_1, hfz12_2, hfz12_3, hfz12_4, hfz12_5⟩ := Ke6_ BK141.out) | ((with_reducible refine gate_callee (f := 59) rfl ?_); refine Kg_ (some 22) rfl rfl Try.func59 (by kernel_rfl) rfl #[.int .u64 (IntKind.u64.wrap ((l0_5.length : Int))), .int .i64 1] rfl ?_; (with_reducible refine (pack_Number.calls (IntKind.u64.wrap ((l0_5.length : Int))) 1 t145 _ A5.out).mono ?_); rintro e w13 ⟨rfl, hb⟩; refine ⟨_, rfl, ?_⟩; replace BK141 := Kb_ BK141 hb; replace HB := Ks_ HB hb; (try clear hb); (try clear hb2); (try clear hk); (try clear hi); obtain ⟨hcz14_0, hcz14_1, hcz14_2, hcz14_3, hcz14_4, hcz14_5, hfz14_0, hfz14_1, hfz14_2, hfz14_3, hfz14_4, hfz14_5⟩ := Ke6_ BK141.out))
 go_loopg [4, 27] k (fun kq v4 v27 w' => ∃ (x4_1 : ByteArray) (x27_1 : Int), v4 = .string x4_1 ∧ v27 = .int .i64 x27_1 ∧ Aside0 (item_Bytes.l0 kq x4_1 l0_5 (l0_5.length : Int) x27_1 = some (r1, r2)) ∧ Aside0 (kq ≤ k) ∧ Aside0 (w'.heap[gb141]? = some (.cells #[.int .u64 a0_0, .int .u64 a0_1, .int .u64 a0_2, .int .u64 a0_3, .int .i64 a0_4, (.slice A0_5 l0_5.length c0_5)] 33 (0, 0))) ∧ Aside0 (Below w.heap.size w w'))
 case atStart => exact ⟨(t143 ++ t145), (0), (by first | rfl | (simp; done) | (simp [*]; done)), (by first | rfl | (simp; done) | (simp [*]; done)), H', ⟨Nat.le_refl _⟩, ⟨by exact Kq_ BK141⟩, ⟨Kz_ HB GE141⟩⟩
 case round =>
  clear H'
  try clear p2
  try clear c3
  try clear c5
  try clear c6
  try clear c6b0
  try clear c6b1
  try clear c6b2
  try clear c7
  try clear c8
  try clear hcz10_0
  try clear hcz10_1
  try clear hcz10_2
  try clear hcz10_3
  try clear hcz10_4
  try clear hcz10_5
  try clear hcz12_0
  try clear hcz12_1
  try clear hcz12_2
  try clear hcz12_3
  try clear hcz12_4
  try clear hcz12_5
  try clear hcz14_0
  try clear hcz14_1
  try clear hcz14_2
  try clear hcz14_3
  try clear hcz14_4
  try clear hcz14_5
  try clear hcz8_0
  try clear hcz8_1
  try clear hcz8_2
  try clear hcz8_3
  try clear hcz8_4
  try clear hcz8_5
  try clear hfz10_0
  try clear hfz10_1
  try clear hfz10_2
  try clear hfz10_3
  try clear hfz10_4
  try clear hfz10_5
  try clear hfz12_0
  try clear hfz12_1
  try clear hfz12_2
  try clear hfz12_3
  try clear hfz12_4
  try clear hfz12_5
  try clear hfz14_0
  try clear hfz14_1
  try clear hfz14_2
  try clear hfz14_3
  try clear hfz14_4
  try clear hfz14_5
  try clear hfz8_0
  try clear hfz8_1
  try clear hfz8_2
  try clear hfz8_3
  try clear hfz8_4
  try clear hfz8_5
  obtain ⟨x4_1, x27_1, rfl, rfl, HA, HK1, BK141, HB⟩ := hrel
  cases gk with
  | zero => exact absurd HA.out (by simp [item_Bytes.l0])
  | succ k1 =>
   have H := HA.out
   clear HA
   simp only [item_Bytes.l0] at H
   by_cases c15 : x27_1 < (l0_5.length : Int)
   rotate_left
   ·rw [if_neg c15] at H
    have c15b0 : decide (x27_1 < (l0_5.length : Int)) = false := decide_eq_false c15
    clear c15
    simp only [Option.some.injEq, Prod.mk.injEq] at H
    obtain ⟨rfl, rfl⟩ := H
    go_wp2
    go_ret2
    exact ⟨Kh_, Kz_ HB GE141⟩
   rw [if_pos c15] at H
   have c15b0 : decide (x27_1 < (l0_5.length : Int)) = true := decide_eq_true c15
   clear c15
   by_cases c16 : 0 ≤ x27_1
   rotate_left
   ·rw [if_neg c16] at H
    exact absurd H (by simp)
   rw [if_pos c16] at H
   have c16b0 : decide (0 ≤ x27_1) = true := decide_eq_true c16
   clear c16
   by_cases c17 : x27_1 < (l0_5.length : Int)
   rotate_left
   ·rw [if_neg c17] at H
    exact absurd H (by simp)
   rw [if_pos c17] at H
   have c17b0 : decide (x27_1 < (l0_5.length : Int)) = true := decide_eq_true c17
   clear c17
   replace H := Option.bind_eq_some_iff.mp H
   obtain ⟨t148, A180, H⟩ := H
   replace H : ((pack_Text.f k1 ((rd_T107 l0_5 x27_1).f1)).bind fun t149 => (if t148.size + t149.size ≤ 9223372036854775807 then (if x4_1.size + (t148 ++ t149).size ≤ 9223372036854775807 then (if (rd_T107 l0_5 x27_1).f3 = true then ((pack_Number.f 1 1).bind fun t150 => (if (x4_1 ++ (t148 ++ t149)).size + t150.size ≤ 9223372036854775807 then (item_Bytes.l0 k1 ((x4_1 ++ (t148 ++ t149)) ++ t150) l0_5 (l0_5.length : Int) (wrap64 (x27_1 + 1))) else (none))) else ((pack_Number.f 0 1).bind fun t151 => ((pack_Text.f k1 ((rd_T107 l0_5 x27_1).f2)).bind fun t152 => (if t151.size + t152.size ≤ 9223372036854775807 then (if (x4_1 ++ (t148 ++ t149)).size + (t151 ++ t152).size ≤ 9223372036854775807 then (item_Bytes.l0 k1 ((x4_1 ++ (t148 ++ t149)) ++ (t151 ++ t152)) l0_5 (l0_5.length : Int) (wrap64 (x27_1 + 1))) else (none)) else (none))))) else (none)) else (none))) = some (r1, r2) := H
   have A18 := Aside0.mk A180
   clear A180
   replace H := Option.bind_eq_some_iff.mp H
   obtain ⟨t149, A190, H⟩ := H
   replace H : (if t148.size + t149.size ≤ 9223372036854775807 then (if x4_1.size + (t148 ++ t149).size ≤ 9223372036854775807 then (if (rd_T107 l0_5 x27_1).f3 = true then ((pack_Number.f 1 1).bind fun t150 => (if (x4_1 ++ (t148 ++ t149)).size + t150.size ≤ 9223372036854775807 then (item_Bytes.l0 k1 ((x4_1 ++ (t148 ++ t149)) ++ t150) l0_5 (l0_5.length : Int) (wrap64 (x27_1 + 1))) else (none))) else ((pack_Number.f 0 1).bind fun t151 => ((pack_Text.f k1 ((rd_T107 l0_5 x27_1).f2)).bind fun t152 => (if t151.size + t152.size ≤ 9223372036854775807 then (if (x4_1 ++ (t148 ++ t149)).size + (t151 ++ t152).size ≤ 9223372036854775807 then (item_Bytes.l0 k1 ((x4_1 ++ (t148 ++ t149)) ++ (t151 ++ t152)) l0_5 (l0_5.length : Int) (wrap64 (x27_1 + 1))) else (none)) else (none))))) else (none)) else (none)) = some (r1, r2) := H
   have A19 := Aside0.mk A190
   clear A190
   by_cases c20 : t148.size + t149.size ≤ 9223372036854775807
   rotate_left
   ·rw [if_neg c20] at H
    exact absurd H (by simp)
   rw [if_pos c20] at H
   have c20b0 := eq_true c20
   have c20b1 : decide (t148.size + t149.size ≤ 9223372036854775807) = true := decide_eq_true c20
   try have c20b2 : (9223372036854775807 < t148.size + t149.size) = False := eq_false (Nat.not_lt.2 c20)
   by_cases c21 : x4_1.size + (t148 ++ t149).size ≤ 9223372036854775807
   rotate_left
   ·rw [if_neg c21] at H
    exact absurd H (by simp)
   rw [if_pos c21] at H
   have c21b0 := eq_true c21
   (try (have c21b0s_ := c21b0; simp only [ByteArray.size_append, Int.natCast_add] at c21b0s_))
   have c21b1 : decide (x4_1.size + (t148 ++ t149).size ≤ 9223372036854775807) = true := decide_eq_true c21
   (try (have c21b1s_ := c21b1; simp only [ByteArray.size_append, Int.natCast_add] at c21b1s_))
   try have c21b2 : (9223372036854775807 < x4_1.size + (t148 ++ t149).size) = False := eq_false (Nat.not_lt.2 c21)
   (try (have c21b2s_ := c21b2; simp only [ByteArray.size_append, Int.natCast_add] at c21b2s_))
   obtain ⟨bq22, hbq22⟩ : ∃ b_ : Bool, b_ = ((rd_T107 l0_5 x27_1).f3) := ⟨_, rfl⟩
   replace H : (if bq22 = true then ((pack_Number.f 1 1).bind fun t150 => (if (x4_1 ++ (t148 ++ t149)).size + t150.size ≤ 9223372036854775807 then (item_Bytes.l0 k1 ((x4_1 ++ (t148 ++ t149)) ++ t150) l0_5 (l0_5.length : Int) (wrap64 (x27_1 + 1))) else (none))) else ((pack_Number.f 0 1).bind fun t151 => ((pack_Text.f k1 ((rd_T107 l0_5 x27_1).f2)).bind fun t152 => (if t151.size + t152.size ≤ 9223372036854775807 then (if (x4_1 ++ (t148 ++ t149)).size + (t151 ++ t152).size ≤ 9223372036854775807 then (item_Bytes.l0 k1 ((x4_1 ++ (t148 ++ t149)) ++ (t151 ++ t152)) l0_5 (l0_5.length : Int) (wrap64 (x27_1 + 1))) else (none)) else (none))))) = some (r1, r2) := by rw [← hbq22] at H; exact H
   have Nbq22 := Aside0.mk hbq22
   clear hbq22
   by_cases c23 : bq22 = true
   ·subst c23
    have H1 : ((pack_Number.f 1 1).bind fun t150 => (if (x4_1 ++ (t148 ++ t149)).size + t150.size ≤ 9223372036854775807 then (item_Bytes.l0 k1 ((x4_1 ++ (t148 ++ t149)) ++ t150) l0_5 (l0_5.length : Int) (wrap64 (x27_1 + 1))) else (none))) = some (r1, r2) := by rw [if_pos rfl] at H; exact H
    clear H
    have H := H1
    clear H1
    replace H := Option.bind_eq_some_iff.mp H
    obtain ⟨t150, A240, H⟩ := H
    replace H : (if (x4_1 ++ (t148 ++ t149)).size + t150.size ≤ 9223372036854775807 then (item_Bytes.l0 k1 ((x4_1 ++ (t148 ++ t149)) ++ t150) l0_5 (l0_5.length : Int) (wrap64 (x27_1 + 1))) else (none)) = some (r1, r2) := H
    have A24 := Aside0.mk A240
    clear A240
    by_cases c25 : (x4_1 ++ (t148 ++ t149)).size + t150.size ≤ 9223372036854775807
    rotate_left
    ·rw [if_neg c25] at H
     exact absurd H (by simp)
    rw [if_pos c25] at H
    have c25b0 := eq_true c25
    (try (have c25b0s_ := c25b0; simp only [ByteArray.size_append, Int.natCast_add] at c25b0s_))
    have c25b1 : decide ((x4_1 ++ (t148 ++ t149)).size + t150.size ≤ 9223372036854775807) = true := decide_eq_true c25
    (try (have c25b1s_ := c25b1; simp only [ByteArray.size_append, Int.natCast_add] at c25b1s_))
    try have c25b2 : (9223372036854775807 < (x4_1 ++ (t148 ++ t149)).size + t150.size) = False := eq_false (Nat.not_lt.2 c25)
    (try (have c25b2s_ := c25b2; simp only [ByteArray.size_append, Int.natCast_add] at c25b2s_))
    have H' := Aside0.mk H
    clear H
    have p146 : 0 ≤ (x27_1 : Int) := of_decide_eq_true (by first | (with_reducible assumption) | assumption)
    have q146 : x27_1 < (l0_5.length : Int) := of_decide_eq_true (by first | (with_reducible assumption) | assumption)
    obtain ⟨ad146, e146, hx146_0, hx146_1, hx146_2, hx146_3⟩ := at_T107 HR0_5.out x27_1 p146 q146
    (try rw [← Nbq22.out] at hx146_3)
    cases e146
    replace hx146_0 := (HB.out.cell (World.block_lt_of_cell? w _ hx146_0)).trans hx146_0
    replace hx146_1 := (HB.out.cell (World.block_lt_of_cell? w _ hx146_1)).trans hx146_1
    replace hx146_2 := (HB.out.cell (World.block_lt_of_cell? w _ hx146_2)).trans hx146_2
    replace hx146_3 := (HB.out.cell (World.block_lt_of_cell? w _ hx146_3)).trans hx146_3
    replace p146 := eq_true p146
    replace q146 := eq_true q146
    try go_wp2_with (first | ((with_reducible refine gate_dst (N := 7) rfl ?_); refine Ka_ 7 #[.string (⟨#[]⟩ : ByteArray), .string (⟨#[]⟩ : ByteArray), .string (⟨#[]⟩ : ByteArray), .bool false] 107 ?_; intro gb147 hg w26 hbox hb; have BK147 := Aside0.mk (hbox); have GW147 := Kw_ HB hg; have GE147 := GW147; have NB141_147 := Kl_ BK141 hg; have NB147_141 := Kr_ BK141 hg; replace BK141 := Kb_ BK141 hb; replace HB := Ks_ HB hb; clear hb hbox hg; have hnb27 := NB147_141.out; have hnc27 := NB141_147.out; obtain ⟨hcz28_0, hcz28_1, hcz28_2, hcz28_3, hfz28_0, hfz28_1, hfz28_2, hfz28_3⟩ := Ke4_ BK147.out))
    have n0_ : Aside0 (((((w26.setCell ⟨gb147, 0, none⟩ (.string ((rd_T107 l0_5 x27_1).f0))).setCell ⟨gb147, 1, none⟩ (.string ((rd_T107 l0_5 x27_1).f1))).setCell ⟨gb147, 2, none⟩ (.string ((rd_T107 l0_5 x27_1).f2))).setCell ⟨gb147, 3, none⟩ (.bool true)).heap[gb141]? = some (.cells #[.int .u64 a0_0, .int .u64 a0_1, .int .u64 a0_2, .int .u64 a0_3, .int .i64 a0_4, .slice (some ad146) l0_5.length c0_5] 33 (0, 0))) := ⟨by exact K1b_ BK141 NB141_147⟩
    have n1_ : Aside0 (((((w26.setCell ⟨gb147, 0, none⟩ (.string ((rd_T107 l0_5 x27_1).f0))).setCell ⟨gb147, 1, none⟩ (.string ((rd_T107 l0_5 x27_1).f1))).setCell ⟨gb147, 2, none⟩ (.string ((rd_T107 l0_5 x27_1).f2))).setCell ⟨gb147, 3, none⟩ (.bool true)).heap[gb147]? = some (.cells #[.string ((rd_T107 l0_5 x27_1).f0), .string ((rd_T107 l0_5 x27_1).f1), .string ((rd_T107 l0_5 x27_1).f2), .bool true] 107 (0, 0))) := ⟨by refine Kv_ ?_; refine blk_put (cs := #[.string ((rd_T107 l0_5 x27_1).f0), .string ((rd_T107 l0_5 x27_1).f1), .string ((rd_T107 l0_5 x27_1).f2), .bool false]) ?_ 3 _ rfl; refine Kv_ ?_; refine blk_put (cs := #[.string ((rd_T107 l0_5 x27_1).f0), .string ((rd_T107 l0_5 x27_1).f1), .string (⟨#[]⟩ : ByteArray), .bool false]) ?_ 2 _ rfl; refine Kv_ ?_; refine blk_put (cs := #[.string ((rd_T107 l0_5 x27_1).f0), .string (⟨#[]⟩ : ByteArray), .string (⟨#[]⟩ : ByteArray), .bool false]) ?_ 1 _ rfl; refine Kv_ ?_; refine blk_put (cs := #[.string (⟨#[]⟩ : ByteArray), .string (⟨#[]⟩ : ByteArray), .string (⟨#[]⟩ : ByteArray), .bool false]) ?_ 0 _ rfl; exact Kq_ BK147⟩
    have n2_ : Aside0 (Below w.heap.size w ((((w26.setCell ⟨gb147, 0, none⟩ (.string ((rd_T107 l0_5 x27_1).f0))).setCell ⟨gb147, 1, none⟩ (.string ((rd_T107 l0_5 x27_1).f1))).setCell ⟨gb147, 2, none⟩ (.string ((rd_T107 l0_5 x27_1).f2))).setCell ⟨gb147, 3, none⟩ (.bool true))) := ⟨K2a_ HB GE141 GE147⟩
    (try clear BK141)
    (try clear BK147)
    (try clear HB)
    generalize ((((w26.setCell ⟨gb147, 0, none⟩ (.string ((rd_T107 l0_5 x27_1).f0))).setCell ⟨gb147, 1, none⟩ (.string ((rd_T107 l0_5 x27_1).f1))).setCell ⟨gb147, 2, none⟩ (.string ((rd_T107 l0_5 x27_1).f2))).setCell ⟨gb147, 3, none⟩ (.bool true)) = w29 at n0_ n1_ n2_ ⊢
    have BK141 := n0_
    have BK147 := n1_
    have HB := n2_
    clear n0_ n1_ n2_
    replace BK141 := Kd_ BK141
    replace BK147 := Kd_ BK147
    replace HB := Aside0.mk (below_drew1 HB.out)
    refine start_ (n := 10) (S := fun w' => w'.cell? ⟨gb147, 0, none⟩ = some (.string ((rd_T107 l0_5 x27_1).f0)) ∧ w'.cell? ⟨gb147, 1, none⟩ = some (.string ((rd_T107 l0_5 x27_1).f1)) ∧ w'.cell? ⟨gb147, 2, none⟩ = some (.string ((rd_T107 l0_5 x27_1).f2)) ∧ w'.cell? ⟨gb147, 3, none⟩ = some (.bool true)) (ds := []) (mB_ 10 0) (by kernel_rfl) rfl rfl (Kc4_ BK147.out) (fun hHeld => ?_); refine with_tabW item_Bytes.tab8 item_Bytes.bits8 (fun HT_ HW_ => ?_)
    generalize w29.drew = w30 at BK141 BK147 HB hHeld ⊢
    refine Kp_ 0 31 (mB_ 10 1) (any_of HT_.out (by kernel_rfl)) ?_
    refine Kp_ 1 32 (mB_ 10 3) (any_of HT_.out (by kernel_rfl)) ?_
    refine Kp_ 4 35 (mB_ 10 19) (any_of HT_.out (by kernel_rfl)) ?_
    refine Ko_ 2 33 (mB_ 10 23) (take_ofW HT_.out HW_.out (by kernel_rfl)) hHeld ?_
    refine Ko_ 5 36 (mB_ 10 55) (take_ofW HT_.out HW_.out (by kernel_rfl)) hHeld ?_
    refine one_ (i := 3) (N := some 34) (mB_ 10 63) rfl rfl (one_of HT_.out (by kernel_rfl)) (by decide) (fun K hK => ?_)
    refine goes_ Try.func62 (by kernel_rfl) rfl #[.string ((rd_T107 l0_5 x27_1).f0)] (by rfl) rfl rfl (by (try simp only [List.map_toArray, List.map_cons, List.map_nil]); first | done | rfl | (simp only [List.length_drop, List.length_take]; rfl)) ?_
    with_reducible refine (pack_Text.calls k1 ((rd_T107 l0_5 x27_1).f0) t148 _ A18.out).mono ?_
    rintro e w31 ⟨rfl, hb⟩
    refine ⟨_, rfl, ?_⟩
    replace BK141 := Kb_ BK141 hb
    replace BK147 := Kb_ BK147 hb
    replace HB := Ks_ HB hb
    (try clear hb)
    (try clear hb2)
    (try clear hk)
    (try clear hi)
    refine hK.out _ _ (Kc4_ BK147.out) (fun hHeld => ?_)
    clear hK K
    refine Kn_ 34 ?_
    refine one_ (i := 6) (N := some 37) (mB_ 10 127) rfl rfl (one_of HT_.out (by kernel_rfl)) (by decide) (fun K hK => ?_)
    refine goes_ Try.func62 (by kernel_rfl) rfl #[.string ((rd_T107 l0_5 x27_1).f1)] (by rfl) rfl rfl (by (try simp only [List.map_toArray, List.map_cons, List.map_nil]); first | done | rfl | (simp only [List.length_drop, List.length_take]; rfl)) ?_
    with_reducible refine (pack_Text.calls k1 ((rd_T107 l0_5 x27_1).f1) t149 _ A19.out).mono ?_
    rintro e w32 ⟨rfl, hb⟩
    refine ⟨_, rfl, ?_⟩
    replace BK141 := Kb_ BK141 hb
    replace BK147 := Kb_ BK147 hb
    replace HB := Ks_ HB hb
    (try clear hb)
    (try clear hb2)
    (try clear hk)
    (try clear hi)
    refine hK.out _ _ (Kc4_ BK147.out) (fun hHeld => ?_)
    clear hK K
    refine Kn_ 37 ?_
    refine Kp_ 7 38 (mB_ 10 255) (any_of HT_.out (by kernel_rfl)) ?_
    refine Kp_ 8 39 (mB_ 10 511) (any_of HT_.out (by kernel_rfl)) ?_
    refine Kp_ 9 4 (mB_ 10 1023) (any_of HT_.out (by kernel_rfl)) ?_
    refine done_ (done_of HT_.out (by kernel_rfl)) ?_
    obtain ⟨hcz33_0, hcz33_1, hcz33_2, hcz33_3, hfz33_0, hfz33_1, hfz33_2, hfz33_3⟩ := Ke4_ BK147.out
    try go_wp2_with (first | ((with_reducible refine gate_callee (f := 59) rfl ?_); refine Kg_ (some 43) rfl rfl Try.func59 (by kernel_rfl) rfl #[.int .u64 1, .int .i64 1] rfl ?_; (with_reducible refine (pack_Number.calls 1 1 t150 _ A24.out).mono ?_); rintro e w34 ⟨rfl, hb⟩; refine ⟨_, rfl, ?_⟩; replace BK141 := Kb_ BK141 hb; replace BK147 := Kb_ BK147 hb; replace HB := Ks_ HB hb; (try clear hb); (try clear hb2); (try clear hk); (try clear hi)))
    go_roundg k1
    case measure => have := HK1.out; omega
    case rel => exact ⟨((x4_1 ++ (t148 ++ t149)) ++ t150), (wrap64 (x27_1 + 1)), (by first | rfl | (simp; done) | (simp [*]; done)), (by first | rfl | (simp; done) | (simp [*]; done)), H', ⟨by have := HK1.out; omega⟩, ⟨by exact Kq_ BK141⟩, ⟨K2a_ HB GE141 GE147⟩⟩
   replace c23 := Bool.eq_false_iff.mpr c23
   subst c23
   have H1 : ((pack_Number.f 0 1).bind fun t151 => ((pack_Text.f k1 ((rd_T107 l0_5 x27_1).f2)).bind fun t152 => (if t151.size + t152.size ≤ 9223372036854775807 then (if (x4_1 ++ (t148 ++ t149)).size + (t151 ++ t152).size ≤ 9223372036854775807 then (item_Bytes.l0 k1 ((x4_1 ++ (t148 ++ t149)) ++ (t151 ++ t152)) l0_5 (l0_5.length : Int) (wrap64 (x27_1 + 1))) else (none)) else (none)))) = some (r1, r2) := by rw [if_neg (show ¬ (false = true) by decide)] at H; exact H
   clear H
   have H := H1
   clear H1
   replace H := Option.bind_eq_some_iff.mp H
   obtain ⟨t151, A350, H⟩ := H
   replace H : ((pack_Text.f k1 ((rd_T107 l0_5 x27_1).f2)).bind fun t152 => (if t151.size + t152.size ≤ 9223372036854775807 then (if (x4_1 ++ (t148 ++ t149)).size + (t151 ++ t152).size ≤ 9223372036854775807 then (item_Bytes.l0 k1 ((x4_1 ++ (t148 ++ t149)) ++ (t151 ++ t152)) l0_5 (l0_5.length : Int) (wrap64 (x27_1 + 1))) else (none)) else (none))) = some (r1, r2) := H
   have A35 := Aside0.mk A350
   clear A350
   replace H := Option.bind_eq_some_iff.mp H
   obtain ⟨t152, A360, H⟩ := H
   replace H : (if t151.size + t152.size ≤ 9223372036854775807 then (if (x4_1 ++ (t148 ++ t149)).size + (t151 ++ t152).size ≤ 9223372036854775807 then (item_Bytes.l0 k1 ((x4_1 ++ (t148 ++ t149)) ++ (t151 ++ t152)) l0_5 (l0_5.length : Int) (wrap64 (x27_1 + 1))) else (none)) else (none)) = some (r1, r2) := H
   have A36 := Aside0.mk A360
   clear A360
   by_cases c37 : t151.size + t152.size ≤ 9223372036854775807
   rotate_left
   ·rw [if_neg c37] at H
    exact absurd H (by simp)
   rw [if_pos c37] at H
   have c37b0 := eq_true c37
   have c37b1 : decide (t151.size + t152.size ≤ 9223372036854775807) = true := decide_eq_true c37
   try have c37b2 : (9223372036854775807 < t151.size + t152.size) = False := eq_false (Nat.not_lt.2 c37)
   by_cases c38 : (x4_1 ++ (t148 ++ t149)).size + (t151 ++ t152).size ≤ 9223372036854775807
   rotate_left
   ·rw [if_neg c38] at H
    exact absurd H (by simp)
   rw [if_pos c38] at H
   have c38b0 := eq_true c38
   (try (have c38b0s_ := c38b0; simp only [ByteArray.size_append, Int.natCast_add] at c38b0s_))
   have c38b1 : decide ((x4_1 ++ (t148 ++ t149)).size + (t151 ++ t152).size ≤ 9223372036854775807) = true := decide_eq_true c38
   (try (have c38b1s_ := c38b1; simp only [ByteArray.size_append, Int.natCast_add] at c38b1s_))
   try have c38b2 : (9223372036854775807 < (x4_1 ++ (t148 ++ t149)).size + (t151 ++ t152).size) = False := eq_false (Nat.not_lt.2 c38)
   (try (have c38b2s_ := c38b2; simp only [ByteArray.size_append, Int.natCast_add] at c38b2s_))
   have H' := Aside0.mk H
   clear H
   have p146 : 0 ≤ (x27_1 : Int) := of_decide_eq_true (by first | (with_reducible assumption) | assumption)
   have q146 : x27_1 < (l0_5.length : Int) := of_decide_eq_true (by first | (with_reducible assumption) | assumption)
   obtain ⟨ad146, e146, hx146_0, hx146_1, hx146_2, hx146_3⟩ := at_T107 HR0_5.out x27_1 p146 q146
   (try rw [← Nbq22.out] at hx146_3)
   cases e146
   replace hx146_0 := (HB.out.cell (World.block_lt_of_cell? w _ hx146_0)).trans hx146_0
   replace hx146_1 := (HB.out.cell (World.block_lt_of_cell? w _ hx146_1)).trans hx146_1
   replace hx146_2 := (HB.out.cell (World.block_lt_of_cell? w _ hx146_2)).trans hx146_2
   replace hx146_3 := (HB.out.cell (World.block_lt_of_cell? w _ hx146_3)).trans hx146_3
   replace p146 := eq_true p146
   replace q146 := eq_true q146
   try go_wp2_with (first | ((with_reducible refine gate_dst (N := 7) rfl ?_); refine Ka_ 7 #[.string (⟨#[]⟩ : ByteArray), .string (⟨#[]⟩ : ByteArray), .string (⟨#[]⟩ : ByteArray), .bool false] 107 ?_; intro gb147 hg w39 hbox hb; have BK147 := Aside0.mk (hbox); have GW147 := Kw_ HB hg; have GE147 := GW147; have NB141_147 := Kl_ BK141 hg; have NB147_141 := Kr_ BK141 hg; replace BK141 := Kb_ BK141 hb; replace HB := Ks_ HB hb; clear hb hbox hg; have hnb40 := NB147_141.out; have hnc40 := NB141_147.out; obtain ⟨hcz41_0, hcz41_1, hcz41_2, hcz41_3, hfz41_0, hfz41_1, hfz41_2, hfz41_3⟩ := Ke4_ BK147.out))
   have n0_ : Aside0 (((((w39.setCell ⟨gb147, 0, none⟩ (.string ((rd_T107 l0_5 x27_1).f0))).setCell ⟨gb147, 1, none⟩ (.string ((rd_T107 l0_5 x27_1).f1))).setCell ⟨gb147, 2, none⟩ (.string ((rd_T107 l0_5 x27_1).f2))).setCell ⟨gb147, 3, none⟩ (.bool false)).heap[gb141]? = some (.cells #[.int .u64 a0_0, .int .u64 a0_1, .int .u64 a0_2, .int .u64 a0_3, .int .i64 a0_4, .slice (some ad146) l0_5.length c0_5] 33 (0, 0))) := ⟨by exact K1b_ BK141 NB141_147⟩
   have n1_ : Aside0 (((((w39.setCell ⟨gb147, 0, none⟩ (.string ((rd_T107 l0_5 x27_1).f0))).setCell ⟨gb147, 1, none⟩ (.string ((rd_T107 l0_5 x27_1).f1))).setCell ⟨gb147, 2, none⟩ (.string ((rd_T107 l0_5 x27_1).f2))).setCell ⟨gb147, 3, none⟩ (.bool false)).heap[gb147]? = some (.cells #[.string ((rd_T107 l0_5 x27_1).f0), .string ((rd_T107 l0_5 x27_1).f1), .string ((rd_T107 l0_5 x27_1).f2), .bool false] 107 (0, 0))) := ⟨by refine Kv_ ?_; refine blk_put (cs := #[.string ((rd_T107 l0_5 x27_1).f0), .string ((rd_T107 l0_5 x27_1).f1), .string ((rd_T107 l0_5 x27_1).f2), .bool false]) ?_ 3 _ rfl; refine Kv_ ?_; refine blk_put (cs := #[.string ((rd_T107 l0_5 x27_1).f0), .string ((rd_T107 l0_5 x27_1).f1), .string (⟨#[]⟩ : ByteArray), .bool false]) ?_ 2 _ rfl; refine Kv_ ?_; refine blk_put (cs := #[.string ((rd_T107 l0_5 x27_1).f0), .string (⟨#[]⟩ : ByteArray), .string (⟨#[]⟩ : ByteArray), .bool false]) ?_ 1 _ rfl; refine Kv_ ?_; refine blk_put (cs := #[.string (⟨#[]⟩ : ByteArray), .string (⟨#[]⟩ : ByteArray), .string (⟨#[]⟩ : ByteArray), .bool false]) ?_ 0 _ rfl; exact Kq_ BK147⟩
   have n2_ : Aside0 (Below w.heap.size w ((((w39.setCell ⟨gb147, 0, none⟩ (.string ((rd_T107 l0_5 x27_1).f0))).setCell ⟨gb147, 1, none⟩ (.string ((rd_T107 l0_5 x27_1).f1))).setCell ⟨gb147, 2, none⟩ (.string ((rd_T107 l0_5 x27_1).f2))).setCell ⟨gb147, 3, none⟩ (.bool false))) := ⟨K2a_ HB GE141 GE147⟩
   (try clear BK141)
   (try clear BK147)
   (try clear HB)
   generalize ((((w39.setCell ⟨gb147, 0, none⟩ (.string ((rd_T107 l0_5 x27_1).f0))).setCell ⟨gb147, 1, none⟩ (.string ((rd_T107 l0_5 x27_1).f1))).setCell ⟨gb147, 2, none⟩ (.string ((rd_T107 l0_5 x27_1).f2))).setCell ⟨gb147, 3, none⟩ (.bool false)) = w42 at n0_ n1_ n2_ ⊢
   have BK141 := n0_
   have BK147 := n1_
   have HB := n2_
   clear n0_ n1_ n2_
   replace BK141 := Kd_ BK141
   replace BK147 := Kd_ BK147
   replace HB := Aside0.mk (below_drew1 HB.out)
   refine start_ (n := 10) (S := fun w' => w'.cell? ⟨gb147, 0, none⟩ = some (.string ((rd_T107 l0_5 x27_1).f0)) ∧ w'.cell? ⟨gb147, 1, none⟩ = some (.string ((rd_T107 l0_5 x27_1).f1)) ∧ w'.cell? ⟨gb147, 2, none⟩ = some (.string ((rd_T107 l0_5 x27_1).f2)) ∧ w'.cell? ⟨gb147, 3, none⟩ = some (.bool false)) (ds := []) (mB_ 10 0) (by kernel_rfl) rfl rfl (Kc4_ BK147.out) (fun hHeld => ?_); refine with_tabW item_Bytes.tab8 item_Bytes.bits8 (fun HT_ HW_ => ?_)
   generalize w42.drew = w43 at BK141 BK147 HB hHeld ⊢
   refine Kp_ 0 31 (mB_ 10 1) (any_of HT_.out (by kernel_rfl)) ?_
   refine Kp_ 1 32 (mB_ 10 3) (any_of HT_.out (by kernel_rfl)) ?_
   refine Kp_ 4 35 (mB_ 10 19) (any_of HT_.out (by kernel_rfl)) ?_
   refine Ko_ 2 33 (mB_ 10 23) (take_ofW HT_.out HW_.out (by kernel_rfl)) hHeld ?_
   refine Ko_ 5 36 (mB_ 10 55) (take_ofW HT_.out HW_.out (by kernel_rfl)) hHeld ?_
   refine one_ (i := 3) (N := some 34) (mB_ 10 63) rfl rfl (one_of HT_.out (by kernel_rfl)) (by decide) (fun K hK => ?_)
   refine goes_ Try.func62 (by kernel_rfl) rfl #[.string ((rd_T107 l0_5 x27_1).f0)] (by rfl) rfl rfl (by (try simp only [List.map_toArray, List.map_cons, List.map_nil]); first | done | rfl | (simp only [List.length_drop, List.length_take]; rfl)) ?_
   with_reducible refine (pack_Text.calls k1 ((rd_T107 l0_5 x27_1).f0) t148 _ A18.out).mono ?_
   rintro e w44 ⟨rfl, hb⟩
   refine ⟨_, rfl, ?_⟩
   replace BK141 := Kb_ BK141 hb
   replace BK147 := Kb_ BK147 hb
   replace HB := Ks_ HB hb
   (try clear hb)
   (try clear hb2)
   (try clear hk)
   (try clear hi)
   refine hK.out _ _ (Kc4_ BK147.out) (fun hHeld => ?_)
   clear hK K
   refine Kn_ 34 ?_
   refine one_ (i := 6) (N := some 37) (mB_ 10 127) rfl rfl (one_of HT_.out (by kernel_rfl)) (by decide) (fun K hK => ?_)
   refine goes_ Try.func62 (by kernel_rfl) rfl #[.string ((rd_T107 l0_5 x27_1).f1)] (by rfl) rfl rfl (by (try simp only [List.map_toArray, List.map_cons, List.map_nil]); first | done | rfl | (simp only [List.length_drop, List.length_take]; rfl)) ?_
   with_reducible refine (pack_Text.calls k1 ((rd_T107 l0_5 x27_1).f1) t149 _ A19.out).mono ?_
   rintro e w45 ⟨rfl, hb⟩
   refine ⟨_, rfl, ?_⟩
   replace BK141 := Kb_ BK141 hb
   replace BK147 := Kb_ BK147 hb
   replace HB := Ks_ HB hb
   (try clear hb)
   (try clear hb2)
   (try clear hk)
   (try clear hi)
   refine hK.out _ _ (Kc4_ BK147.out) (fun hHeld => ?_)
   clear hK K
   refine Kn_ 37 ?_
   refine Kp_ 7 38 (mB_ 10 255) (any_of HT_.out (by kernel_rfl)) ?_
   refine Kp_ 8 39 (mB_ 10 511) (any_of HT_.out (by kernel_rfl)) ?_
   refine Kp_ 9 4 (mB_ 10 1023) (any_of HT_.out (by kernel_rfl)) ?_
   refine done_ (done_of HT_.out (by kernel_rfl)) ?_
   obtain ⟨hcz46_0, hcz46_1, hcz46_2, hcz46_3, hfz46_0, hfz46_1, hfz46_2, hfz46_3⟩ := Ke4_ BK147.out
   try go_wp2
   replace BK141 := Kd_ BK141
   replace BK147 := Kd_ BK147
   replace HB := Aside0.mk (below_drew1 HB.out)
   refine start_ (n := 8) (S := fun w' => w'.cell? ⟨gb147, 0, none⟩ = some (.string ((rd_T107 l0_5 x27_1).f0)) ∧ w'.cell? ⟨gb147, 1, none⟩ = some (.string ((rd_T107 l0_5 x27_1).f1)) ∧ w'.cell? ⟨gb147, 2, none⟩ = some (.string ((rd_T107 l0_5 x27_1).f2)) ∧ w'.cell? ⟨gb147, 3, none⟩ = some (.bool false)) (ds := []) (mB_ 8 0) (by kernel_rfl) rfl rfl (Kc4_ BK147.out) (fun hHeld => ?_); refine with_tabW item_Bytes.tab11 item_Bytes.bits11 (fun HT_ HW_ => ?_)
   generalize w45.drew = w47 at BK141 BK147 HB hHeld ⊢
   refine Kp_ 0 45 (mB_ 8 1) (any_of HT_.out (by kernel_rfl)) ?_
   refine Kp_ 2 47 (mB_ 8 5) (any_of HT_.out (by kernel_rfl)) ?_
   refine Ko_ 3 48 (mB_ 8 13) (take_ofW HT_.out HW_.out (by kernel_rfl)) hHeld ?_
   refine one_ (i := 1) (N := some 46) (mB_ 8 15) rfl rfl (one_of HT_.out (by kernel_rfl)) (by decide) (fun K hK => ?_)
   refine goes_ Try.func59 (by kernel_rfl) rfl #[.int .u64 0, .int .i64 1] (by rfl) rfl rfl (by (try simp only [List.map_toArray, List.map_cons, List.map_nil]); first | done | rfl | (simp only [List.length_drop, List.length_take]; rfl)) ?_
   with_reducible refine (pack_Number.calls 0 1 t151 _ A35.out).mono ?_
   rintro e w48 ⟨rfl, hb⟩
   refine ⟨_, rfl, ?_⟩
   replace BK141 := Kb_ BK141 hb
   replace BK147 := Kb_ BK147 hb
   replace HB := Ks_ HB hb
   (try clear hb)
   (try clear hb2)
   (try clear hk)
   (try clear hi)
   refine hK.out _ _ (Kc4_ BK147.out) (fun hHeld => ?_)
   clear hK K
   refine Kn_ 46 ?_
   refine one_ (i := 4) (N := some 49) (mB_ 8 31) rfl rfl (one_of HT_.out (by kernel_rfl)) (by decide) (fun K hK => ?_)
   refine goes_ Try.func62 (by kernel_rfl) rfl #[.string ((rd_T107 l0_5 x27_1).f2)] (by rfl) rfl rfl (by (try simp only [List.map_toArray, List.map_cons, List.map_nil]); first | done | rfl | (simp only [List.length_drop, List.length_take]; rfl)) ?_
   with_reducible refine (pack_Text.calls k1 ((rd_T107 l0_5 x27_1).f2) t152 _ A36.out).mono ?_
   rintro e w49 ⟨rfl, hb⟩
   refine ⟨_, rfl, ?_⟩
   replace BK141 := Kb_ BK141 hb
   replace BK147 := Kb_ BK147 hb
   replace HB := Ks_ HB hb
   (try clear hb)
   (try clear hb2)
   (try clear hk)
   (try clear hi)
   refine hK.out _ _ (Kc4_ BK147.out) (fun hHeld => ?_)
   clear hK K
   refine Kn_ 49 ?_
   refine Kp_ 5 50 (mB_ 8 63) (any_of HT_.out (by kernel_rfl)) ?_
   refine Kp_ 6 51 (mB_ 8 127) (any_of HT_.out (by kernel_rfl)) ?_
   refine Kp_ 7 4 (mB_ 8 255) (any_of HT_.out (by kernel_rfl)) ?_
   refine done_ (done_of HT_.out (by kernel_rfl)) ?_
   try go_wp2
   go_roundg k1
   case measure => have := HK1.out; omega
   case rel => exact ⟨((x4_1 ++ (t148 ++ t149)) ++ (t151 ++ t152)), (wrap64 (x27_1 + 1)), (by first | rfl | (simp; done) | (simp [*]; done)), (by first | rfl | (simp; done) | (simp [*]; done)), H', ⟨by have := HK1.out; omega⟩, ⟨by exact Kq_ BK141⟩, ⟨K2a_ HB GE141 GE147⟩⟩
end Go.Proofs.Ytoagfdpgnfinhaa.Q
