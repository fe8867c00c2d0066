import Derived.Test.YtoogchgoiciggaaGItemSame2
import Derived.Test.YtoogchgoiciggaaGItemSame8
import Derived.Test.YtoogchgoiciggaaGItemSame9
namespace Go.Proofs.Ytoogchgoiciggaa.Q
open Go.RowKit Go.Proofs.YtoogchgoiciggaaW.PrintWords Go.Proofs.YtoogchgoiciggaaW.PrintLast Go.Proofs.YtoogchgoiciggaaW.PrintMore
attribute [local go_sem] max2_int min2_int max_two min_two max_three min_three max_four min_four   -- for this text's walks alone
set_option linter.unusedVariables false
set_option linter.unusedSimpArgs false
def tenementlaw08_ItemSame.f (k : Nat) (a0_0 : Int) (a0_1 : Int) (a0_2 : Int) (a0_3 : Int) (a0_4 : Int) (a0_5 : Bool) (l0_6 : List (S25)) (a0_7 : Bool) (a1 : Int) : Option (Bool) := (tenementlaw08_examples.f k).bind fun t721 => (if t721 = true then ((tenementlaw08_Deal_deal.f k a0_0 a0_1 a0_2 a0_3 a0_4 a0_5 l0_6 true).bind fun bt722 => (if ([] : List (S23)).length + bt722.2.2.2.2.2.length < 2513169434916 then ((some (([] : List (S23)) ++ bt722.2.2.2.2.2 : List (S23))).bind fun y731 => ((item_Same.f k bt722.1 bt722.2.1 bt722.2.2.1 bt722.2.2.2.1 bt722.2.2.2.2.1 bt722.2.2.2.2.2 bt722.1 bt722.2.1 bt722.2.2.1 bt722.2.2.2.1 bt722.2.2.2.2.1 y731).bind fun t735 => (if (y731.length : Int) = 0 then (none) else (if 0 ≤ (Int.tmod (wrap64 (a1)) (y731.length : Int)) then (if (Int.tmod (wrap64 (a1)) (y731.length : Int)) < (y731.length : Int) then (if ((rd_T23 y731 (Int.tmod (wrap64 (a1)) (y731.length : Int))).f1).size + 1 ≤ 9223372036854775807 then ((item_Same.f k bt722.1 bt722.2.1 bt722.2.2.1 bt722.2.2.2.1 bt722.2.2.2.2.1 bt722.2.2.2.2.2 bt722.1 bt722.2.1 bt722.2.2.1 bt722.2.2.2.1 bt722.2.2.2.2.1 (y731.set ((Int.tmod (wrap64 (a1)) (y731.length : Int)) : Int).toNat (⟨(rd_T23 y731 (Int.tmod (wrap64 (a1)) (y731.length : Int))).f0, ((rd_T23 y731 (Int.tmod (wrap64 (a1)) (y731.length : Int))).f1) ++ (⟨#[122]⟩ : ByteArray), (rd_T23 y731 (Int.tmod (wrap64 (a1)) (y731.length : Int))).f2, (rd_T23 y731 (Int.tmod (wrap64 (a1)) (y731.length : Int))).f3⟩ : S23))).bind fun t738 => (if 0 ≤ (wrap64 ((bt722.2.2.2.2.2.length : Int) - 1)) then (if (wrap64 ((bt722.2.2.2.2.2.length : Int) - 1)) ≤ (bt722.2.2.2.2.2.length : Int) then (if t735 = true then (if t738 = true then (none) else ((item_Same.f k bt722.1 bt722.2.1 bt722.2.2.1 bt722.2.2.2.1 bt722.2.2.2.2.1 bt722.2.2.2.2.2 bt722.1 bt722.2.1 bt722.2.2.1 bt722.2.2.2.1 bt722.2.2.2.2.1 (bt722.2.2.2.2.2.take ((wrap64 ((bt722.2.2.2.2.2.length : Int) - 1)) : Int).toNat)).bind fun t745 => (if t745 = true then (none) else ((item_Same.f k bt722.1 bt722.2.1 bt722.2.2.1 bt722.2.2.2.1 bt722.2.2.2.2.1 bt722.2.2.2.2.2 0 0 0 0 0 bt722.2.2.2.2.2).bind fun t746 => (if t746 = true then (none) else ((item_Same.f k 0 0 0 0 0 ([] : List (S23)) 0 0 0 0 0 ([] : List (S23))).bind fun t747 => (if t747 = true then (some true) else (none)))))))) else (none)) else (none)) else (none))) else (none)) else (none)) else (none))))) else (none))) else (none))
def tenementlaw08_ItemSame.T6 : Bool × List (List Nat × List Nat) := (true, [([], []), ([0], [0]), ([], []), ([2], [2]), ([3], [3]), ([1, 4], [1, 4]), ([], []), ([6, 5, 4, 0, 1, 2, 3, 4, 5, 6], [5, 6])])
def tenementlaw08_ItemSame.B6 : List Nat := [0, 1, 0, 4, 12, 31, 0, 127]
theorem tenementlaw08_ItemSame.tab6 : rtab .any (opsOf Try.f9 6) = tenementlaw08_ItemSame.T6 := by kernel_rfl
theorem tenementlaw08_ItemSame.bits6 : waitsOk tenementlaw08_ItemSame.T6.2 tenementlaw08_ItemSame.B6 = true := by kernel_rfl
def tenementlaw08_ItemSame.T9 : Bool × List (List Nat × List Nat) := (true, [([], []), ([0], [0]), ([], []), ([], []), ([3], [3]), ([], []), ([4, 5], [4, 5]), ([6], [6]), ([7], [7]), ([8], [8]), ([1, 2, 0, 1, 2, 3, 4, 5, 6, 7, 8, 9], [1, 2]), ([10, 0, 1, 2, 3, 4, 5, 6, 7, 8, 9], [10]), ([11, 9, 0, 1, 2, 3, 4, 5, 6, 7, 8, 9], [9, 11])])
def tenementlaw08_ItemSame.B9 : List Nat := [0, 1, 0, 0, 8, 0, 56, 120, 248, 504, 1023, 2047, 4095]
theorem tenementlaw08_ItemSame.tab9 : rtab .any (opsOf Try.f9 9) = tenementlaw08_ItemSame.T9 := by kernel_rfl
theorem tenementlaw08_ItemSame.bits9 : waitsOk tenementlaw08_ItemSame.T9.2 tenementlaw08_ItemSame.B9 = true := by kernel_rfl
def tenementlaw08_ItemSame.T11 : Bool × List (List Nat × List Nat) := (true, [([], []), ([0], [0]), ([], []), ([2], [2]), ([], []), ([4], [4]), ([5], [5]), ([6], [6]), ([3, 7], [3, 7]), ([1, 8], [1, 8]), ([], []), ([10, 9, 0, 1, 2, 3, 4, 5, 6, 7, 8, 9, 10], [9, 10])])
def tenementlaw08_ItemSame.B11 : List Nat := [0, 1, 0, 4, 0, 16, 48, 112, 252, 511, 0, 2047]
theorem tenementlaw08_ItemSame.tab11 : rtab .any (opsOf Try.f9 11) = tenementlaw08_ItemSame.T11 := by kernel_rfl
theorem tenementlaw08_ItemSame.bits11 : waitsOk tenementlaw08_ItemSame.T11.2 tenementlaw08_ItemSame.B11 = true := by kernel_rfl
set_option maxHeartbeats 8000000 in
set_option maxRecDepth 100000 in
theorem tenementlaw08_ItemSame.calls (k : Nat) (a0_0 : Int) (a0_1 : Int) (a0_2 : Int) (a0_3 : Int) (a0_4 : Int) (a0_5 : Bool) (A0_6 : Option Addr) (c0_6 : Nat) (l0_6 : List (S25)) (a0_7 : Bool) (a1 : Int) (r : Bool) (w : World) (hr0_6 : Kd.C k25 w A0_6 l0_6.length l0_6) (hc0_6 : l0_6.length ≤ c0_6) (h : tenementlaw08_ItemSame.f k a0_0 a0_1 a0_2 a0_3 a0_4 a0_5 l0_6 a0_7 a1 = some r) :
  Calls Try.prog 9 #[.agg #[.int .u64 a0_0, .int .u64 a0_1, .int .u64 a0_2, .int .u64 a0_3, .int .i64 a0_4, .bool a0_5, .slice A0_6 l0_6.length c0_6, .bool a0_7], .int .u8 a1] w fun e w' => e = .returned (.bool r) ∧ Below w.heap.size w w' := by
 have hu35 := Try.underlying35
 have hu43 := Try.underlying43
 have hu30 := Try.underlying30
 have HR0_6 := Aside0.mk hr0_6
 have HC0_6 := Aside0.mk hc0_6
 clear hr0_6 hc0_6
 have HB := Aside0.mk (Below.refl w.heap.size w)
 have H : ((tenementlaw08_examples.f k).bind fun t721 => (if t721 = true then ((tenementlaw08_Deal_deal.f k a0_0 a0_1 a0_2 a0_3 a0_4 a0_5 l0_6 true).bind fun bt722 => (if ([] : List (S23)).length + bt722.2.2.2.2.2.length < 2513169434916 then ((some (([] : List (S23)) ++ bt722.2.2.2.2.2 : List (S23))).bind fun y731 => ((item_Same.f k bt722.1 bt722.2.1 bt722.2.2.1 bt722.2.2.2.1 bt722.2.2.2.2.1 bt722.2.2.2.2.2 bt722.1 bt722.2.1 bt722.2.2.1 bt722.2.2.2.1 bt722.2.2.2.2.1 y731).bind fun t735 => (if (y731.length : Int) = 0 then (none) else (if 0 ≤ (Int.tmod (wrap64 (a1)) (y731.length : Int)) then (if (Int.tmod (wrap64 (a1)) (y731.length : Int)) < (y731.length : Int) then (if ((rd_T23 y731 (Int.tmod (wrap64 (a1)) (y731.length : Int))).f1).size + 1 ≤ 9223372036854775807 then ((item_Same.f k bt722.1 bt722.2.1 bt722.2.2.1 bt722.2.2.2.1 bt722.2.2.2.2.1 bt722.2.2.2.2.2 bt722.1 bt722.2.1 bt722.2.2.1 bt722.2.2.2.1 bt722.2.2.2.2.1 (y731.set ((Int.tmod (wrap64 (a1)) (y731.length : Int)) : Int).toNat (⟨(rd_T23 y731 (Int.tmod (wrap64 (a1)) (y731.length : Int))).f0, ((rd_T23 y731 (Int.tmod (wrap64 (a1)) (y731.length : Int))).f1) ++ (⟨#[122]⟩ : ByteArray), (rd_T23 y731 (Int.tmod (wrap64 (a1)) (y731.length : Int))).f2, (rd_T23 y731 (Int.tmod (wrap64 (a1)) (y731.length : Int))).f3⟩ : S23))).bind fun t738 => (if 0 ≤ (wrap64 ((bt722.2.2.2.2.2.length : Int) - 1)) then (if (wrap64 ((bt722.2.2.2.2.2.length : Int) - 1)) ≤ (bt722.2.2.2.2.2.length : Int) then (if t735 = true then (if t738 = true then (none) else ((item_Same.f k bt722.1 bt722.2.1 bt722.2.2.1 bt722.2.2.2.1 bt722.2.2.2.2.1 bt722.2.2.2.2.2 bt722.1 bt722.2.1 bt722.2.2.1 bt722.2.2.2.1 bt722.2.2.2.2.1 (bt722.2.2.2.2.2.take ((wrap64 ((bt722.2.2.2.2.2.length : Int) - 1)) : Int).toNat)).bind fun t745 => (if t745 = true then (none) else ((item_Same.f k bt722.1 bt722.2.1 bt722.2.2.1 bt722.2.2.2.1 bt722.2.2.2.2.1 bt722.2.2.2.2.2 0 0 0 0 0 bt722.2.2.2.2.2).bind fun t746 => (if t746 = true then (none) else ((item_Same.f k 0 0 0 0 0 ([] : List (S23)) 0 0 0 0 0 ([] : List (S23))).bind fun t747 => (if t747 = true then (some true) else (none)))))))) else (none)) else (none)) else (none))) else (none)) else (none)) else (none))))) else (none))) else (none))) = some r := h
 clear h
 replace H := Option.bind_eq_some_iff.mp H
 obtain ⟨t721, A30, H⟩ := H
 replace H : (if t721 = true then ((tenementlaw08_Deal_deal.f k a0_0 a0_1 a0_2 a0_3 a0_4 a0_5 l0_6 true).bind fun bt722 => (if ([] : List (S23)).length + bt722.2.2.2.2.2.length < 2513169434916 then ((some (([] : List (S23)) ++ bt722.2.2.2.2.2 : List (S23))).bind fun y731 => ((item_Same.f k bt722.1 bt722.2.1 bt722.2.2.1 bt722.2.2.2.1 bt722.2.2.2.2.1 bt722.2.2.2.2.2 bt722.1 bt722.2.1 bt722.2.2.1 bt722.2.2.2.1 bt722.2.2.2.2.1 y731).bind fun t735 => (if (y731.length : Int) = 0 then (none) else (if 0 ≤ (Int.tmod (wrap64 (a1)) (y731.length : Int)) then (if (Int.tmod (wrap64 (a1)) (y731.length : Int)) < (y731.length : Int) then (if ((rd_T23 y731 (Int.tmod (wrap64 (a1)) (y731.length : Int))).f1).size + 1 ≤ 9223372036854775807 then ((item_Same.f k bt722.1 bt722.2.1 bt722.2.2.1 bt722.2.2.2.1 bt722.2.2.2.2.1 bt722.2.2.2.2.2 bt722.1 bt722.2.1 bt722.2.2.1 bt722.2.2.2.1 bt722.2.2.2.2.1 (y731.set ((Int.tmod (wrap64 (a1)) (y731.length : Int)) : Int).toNat (⟨(rd_T23 y731 (Int.tmod (wrap64 (a1)) (y731.length : Int))).f0, ((rd_T23 y731 (Int.tmod (wrap64 (a1)) (y731.length : Int))).f1) ++ (⟨#[122]⟩ : ByteArray), (rd_T23 y731 (Int.tmod (wrap64 (a1)) (y731.length : Int))).f2, (rd_T23 y731 (Int.tmod (wrap64 (a1)) (y731.length : Int))).f3⟩ : S23))).bind fun t738 => (if 0 ≤ (wrap64 ((bt722.2.2.2.2.2.length : Int) - 1)) then (if (wrap64 ((bt722.2.2.2.2.2.length : Int) - 1)) ≤ (bt722.2.2.2.2.2.length : Int) then (if t735 = true then (if t738 = true then (none) else ((item_Same.f k bt722.1 bt722.2.1 bt722.2.2.1 bt722.2.2.2.1 bt722.2.2.2.2.1 bt722.2.2.2.2.2 bt722.1 bt722.2.1 bt722.2.2.1 bt722.2.2.2.1 bt722.2.2.2.2.1 (bt722.2.2.2.2.2.take ((wrap64 ((bt722.2.2.2.2.2.length : Int) - 1)) : Int).toNat)).bind fun t745 => (if t745 = true then (none) else ((item_Same.f k bt722.1 bt722.2.1 bt722.2.2.1 bt722.2.2.2.1 bt722.2.2.2.2.1 bt722.2.2.2.2.2 0 0 0 0 0 bt722.2.2.2.2.2).bind fun t746 => (if t746 = true then (none) else ((item_Same.f k 0 0 0 0 0 ([] : List (S23)) 0 0 0 0 0 ([] : List (S23))).bind fun t747 => (if t747 = true then (some true) else (none)))))))) else (none)) else (none)) else (none))) else (none)) else (none)) else (none))))) else (none))) else (none)) = some r := H
 have A3 := Aside0.mk A30
 clear A30
 by_cases c4 : t721 = true
 rotate_left
 ·replace c4 := Bool.eq_false_iff.mpr c4
  subst c4
  have H1 : (none) = some r := by rw [if_neg (show ¬ (false = true) by decide)] at H; exact H
  clear H
  have H := H1
  clear H1
  exact absurd H (by simp)
 subst c4
 have H1 : ((tenementlaw08_Deal_deal.f k a0_0 a0_1 a0_2 a0_3 a0_4 a0_5 l0_6 true).bind fun bt722 => (if ([] : List (S23)).length + bt722.2.2.2.2.2.length < 2513169434916 then ((some (([] : List (S23)) ++ bt722.2.2.2.2.2 : List (S23))).bind fun y731 => ((item_Same.f k bt722.1 bt722.2.1 bt722.2.2.1 bt722.2.2.2.1 bt722.2.2.2.2.1 bt722.2.2.2.2.2 bt722.1 bt722.2.1 bt722.2.2.1 bt722.2.2.2.1 bt722.2.2.2.2.1 y731).bind fun t735 => (if (y731.length : Int) = 0 then (none) else (if 0 ≤ (Int.tmod (wrap64 (a1)) (y731.length : Int)) then (if (Int.tmod (wrap64 (a1)) (y731.length : Int)) < (y731.length : Int) then (if ((rd_T23 y731 (Int.tmod (wrap64 (a1)) (y731.length : Int))).f1).size + 1 ≤ 9223372036854775807 then ((item_Same.f k bt722.1 bt722.2.1 bt722.2.2.1 bt722.2.2.2.1 bt722.2.2.2.2.1 bt722.2.2.2.2.2 bt722.1 bt722.2.1 bt722.2.2.1 bt722.2.2.2.1 bt722.2.2.2.2.1 (y731.set ((Int.tmod (wrap64 (a1)) (y731.length : Int)) : Int).toNat (⟨(rd_T23 y731 (Int.tmod (wrap64 (a1)) (y731.length : Int))).f0, ((rd_T23 y731 (Int.tmod (wrap64 (a1)) (y731.length : Int))).f1) ++ (⟨#[122]⟩ : ByteArray), (rd_T23 y731 (Int.tmod (wrap64 (a1)) (y731.length : Int))).f2, (rd_T23 y731 (Int.tmod (wrap64 (a1)) (y731.length : Int))).f3⟩ : S23))).bind fun t738 => (if 0 ≤ (wrap64 ((bt722.2.2.2.2.2.length : Int) - 1)) then (if (wrap64 ((bt722.2.2.2.2.2.length : Int) - 1)) ≤ (bt722.2.2.2.2.2.length : Int) then (if t735 = true then (if t738 = true then (none) else ((item_Same.f k bt722.1 bt722.2.1 bt722.2.2.1 bt722.2.2.2.1 bt722.2.2.2.2.1 bt722.2.2.2.2.2 bt722.1 bt722.2.1 bt722.2.2.1 bt722.2.2.2.1 bt722.2.2.2.2.1 (bt722.2.2.2.2.2.take ((wrap64 ((bt722.2.2.2.2.2.length : Int) - 1)) : Int).toNat)).bind fun t745 => (if t745 = true then (none) else ((item_Same.f k bt722.1 bt722.2.1 bt722.2.2.1 bt722.2.2.2.1 bt722.2.2.2.2.1 bt722.2.2.2.2.2 0 0 0 0 0 bt722.2.2.2.2.2).bind fun t746 => (if t746 = true then (none) else ((item_Same.f k 0 0 0 0 0 ([] : List (S23)) 0 0 0 0 0 ([] : List (S23))).bind fun t747 => (if t747 = true then (some true) else (none)))))))) else (none)) else (none)) else (none))) else (none)) else (none)) else (none))))) else (none))) = some r := by rw [if_pos rfl] at H; exact H
 clear H
 have H := H1
 clear H1
 replace H := Option.bind_eq_some_iff.mp H
 obtain ⟨⟨t722, t723, t724, t725, t726, t727⟩, A50, H⟩ := H
 replace H : (if ([] : List (S23)).length + t727.length < 2513169434916 then ((some (([] : List (S23)) ++ t727 : List (S23))).bind fun y731 => ((item_Same.f k t722 t723 t724 t725 t726 t727 t722 t723 t724 t725 t726 y731).bind fun t735 => (if (y731.length : Int) = 0 then (none) else (if 0 ≤ (Int.tmod (wrap64 (a1)) (y731.length : Int)) then (if (Int.tmod (wrap64 (a1)) (y731.length : Int)) < (y731.length : Int) then (if ((rd_T23 y731 (Int.tmod (wrap64 (a1)) (y731.length : Int))).f1).size + 1 ≤ 9223372036854775807 then ((item_Same.f k t722 t723 t724 t725 t726 t727 t722 t723 t724 t725 t726 (y731.set ((Int.tmod (wrap64 (a1)) (y731.length : Int)) : Int).toNat (⟨(rd_T23 y731 (Int.tmod (wrap64 (a1)) (y731.length : Int))).f0, ((rd_T23 y731 (Int.tmod (wrap64 (a1)) (y731.length : Int))).f1) ++ (⟨#[122]⟩ : ByteArray), (rd_T23 y731 (Int.tmod (wrap64 (a1)) (y731.length : Int))).f2, (rd_T23 y731 (Int.tmod (wrap64 (a1)) (y731.length : Int))).f3⟩ : S23))).bind fun t738 => (if 0 ≤ (wrap64 ((t727.length : Int) - 1)) then (if (wrap64 ((t727.length : Int) - 1)) ≤ (t727.length : Int) then (if t735 = true then (if t738 = true then (none) else ((item_Same.f k t722 t723 t724 t725 t726 t727 t722 t723 t724 t725 t726 (t727.take ((wrap64 ((t727.length : Int) - 1)) : Int).toNat)).bind fun t745 => (if t745 = true then (none) else ((item_Same.f k t722 t723 t724 t725 t726 t727 0 0 0 0 0 t727).bind fun t746 => (if t746 = true then (none) else ((item_Same.f k 0 0 0 0 0 ([] : List (S23)) 0 0 0 0 0 ([] : List (S23))).bind fun t747 => (if t747 = true then (some true) else (none)))))))) else (none)) else (none)) else (none))) else (none)) else (none)) else (none))))) else (none)) = some r := H
 have A5 := Aside0.mk A50
 clear A50
 by_cases c6 : ([] : List (S23)).length + t727.length < 2513169434916
 rotate_left
 ·rw [if_neg c6] at H
  exact absurd H (by simp)
 rw [if_pos c6] at H
 have LMc6 := Aside0.mk c6
 clear c6
 obtain ⟨y731, hy731⟩ : ∃ y_ : List (S23), y_ = (([] : List (S23)) ++ t727) := ⟨_, rfl⟩
 replace H : ((item_Same.f k t722 t723 t724 t725 t726 t727 t722 t723 t724 t725 t726 y731).bind fun t735 => (if (y731.length : Int) = 0 then (none) else (if 0 ≤ (Int.tmod (wrap64 (a1)) (y731.length : Int)) then (if (Int.tmod (wrap64 (a1)) (y731.length : Int)) < (y731.length : Int) then (if ((rd_T23 y731 (Int.tmod (wrap64 (a1)) (y731.length : Int))).f1).size + 1 ≤ 9223372036854775807 then ((item_Same.f k t722 t723 t724 t725 t726 t727 t722 t723 t724 t725 t726 (y731.set ((Int.tmod (wrap64 (a1)) (y731.length : Int)) : Int).toNat (⟨(rd_T23 y731 (Int.tmod (wrap64 (a1)) (y731.length : Int))).f0, ((rd_T23 y731 (Int.tmod (wrap64 (a1)) (y731.length : Int))).f1) ++ (⟨#[122]⟩ : ByteArray), (rd_T23 y731 (Int.tmod (wrap64 (a1)) (y731.length : Int))).f2, (rd_T23 y731 (Int.tmod (wrap64 (a1)) (y731.length : Int))).f3⟩ : S23))).bind fun t738 => (if 0 ≤ (wrap64 ((t727.length : Int) - 1)) then (if (wrap64 ((t727.length : Int) - 1)) ≤ (t727.length : Int) then (if t735 = true then (if t738 = true then (none) else ((item_Same.f k t722 t723 t724 t725 t726 t727 t722 t723 t724 t725 t726 (t727.take ((wrap64 ((t727.length : Int) - 1)) : Int).toNat)).bind fun t745 => (if t745 = true then (none) else ((item_Same.f k t722 t723 t724 t725 t726 t727 0 0 0 0 0 t727).bind fun t746 => (if t746 = true then (none) else ((item_Same.f k 0 0 0 0 0 ([] : List (S23)) 0 0 0 0 0 ([] : List (S23))).bind fun t747 => (if t747 = true then (some true) else (none)))))))) else (none)) else (none)) else (none))) else (none)) else (none)) else (none)))) = some r := by first | (rw [hy731]; with_reducible exact H) | (have H2_ := (Option.bind_some _ _).symm.trans H; rw [hy731]; with_reducible exact H2_) | (have H2_ := (Option.bind_some _ _).symm.trans H; with_reducible exact H2_) | with_reducible exact H | (rw [hy731]; exact H) | exact H
 have Ny731 := Aside0.mk hy731
 clear hy731
 replace H := Option.bind_eq_some_iff.mp H
 obtain ⟨t735, A70, H⟩ := H
 replace H : (if (y731.length : Int) = 0 then (none) else (if 0 ≤ (Int.tmod (wrap64 (a1)) (y731.length : Int)) then (if (Int.tmod (wrap64 (a1)) (y731.length : Int)) < (y731.length : Int) then (if ((rd_T23 y731 (Int.tmod (wrap64 (a1)) (y731.length : Int))).f1).size + 1 ≤ 9223372036854775807 then ((item_Same.f k t722 t723 t724 t725 t726 t727 t722 t723 t724 t725 t726 (y731.set ((Int.tmod (wrap64 (a1)) (y731.length : Int)) : Int).toNat (⟨(rd_T23 y731 (Int.tmod (wrap64 (a1)) (y731.length : Int))).f0, ((rd_T23 y731 (Int.tmod (wrap64 (a1)) (y731.length : Int))).f1) ++ (⟨#[122]⟩ : ByteArray), (rd_T23 y731 (Int.tmod (wrap64 (a1)) (y731.length : Int))).f2, (rd_T23 y731 (Int.tmod (wrap64 (a1)) (y731.length : Int))).f3⟩ : S23))).bind fun t738 => (if 0 ≤ (wrap64 ((t727.length : Int) - 1)) then (if (wrap64 ((t727.length : Int) - 1)) ≤ (t727.length : Int) then (if t735 = true then (if t738 = true then (none) else ((item_Same.f k t722 t723 t724 t725 t726 t727 t722 t723 t724 t725 t726 (t727.take ((wrap64 ((t727.length : Int) - 1)) : Int).toNat)).bind fun t745 => (if t745 = true then (none) else ((item_Same.f k t722 t723 t724 t725 t726 t727 0 0 0 0 0 t727).bind fun t746 => (if t746 = true then (none) else ((item_Same.f k 0 0 0 0 0 ([] : List (S23)) 0 0 0 0 0 ([] : List (S23))).bind fun t747 => (if t747 = true then (some true) else (none)))))))) else (none)) else (none)) else (none))) else (none)) else (none)) else (none))) = some r := H
 have A7 := Aside0.mk A70
 clear A70
 by_cases c8 : (y731.length : Int) = 0
 ·rw [if_pos c8] at H
  exact absurd H (by simp)
 rw [if_neg c8] at H
 have c8b0 : ((y731.length : Int) == 0) = false := beq_eq_false_iff_ne.mpr c8
 have c8b1 : ((y731.length : Int) != 0) = true := bne_iff_ne.mpr c8
 have c8b2 : ¬ (y731 = []) := fun h_ => c8 (by rw [h_]; rfl)
 obtain ⟨ji9, hji9⟩ : ∃ j_ : Int, (Int.tmod (wrap64 (a1)) (y731.length : Int)) = j_ := ⟨_, rfl⟩
 replace H : (if 0 ≤ (ji9) then (if (ji9) < (y731.length : Int) then (if ((rd_T23 y731 (ji9)).f1).size + 1 ≤ 9223372036854775807 then ((item_Same.f k t722 t723 t724 t725 t726 t727 t722 t723 t724 t725 t726 (y731.set ((ji9) : Int).toNat (⟨(rd_T23 y731 (ji9)).f0, ((rd_T23 y731 (ji9)).f1) ++ (⟨#[122]⟩ : ByteArray), (rd_T23 y731 (ji9)).f2, (rd_T23 y731 (ji9)).f3⟩ : S23))).bind fun t738 => (if 0 ≤ (wrap64 ((t727.length : Int) - 1)) then (if (wrap64 ((t727.length : Int) - 1)) ≤ (t727.length : Int) then (if t735 = true then (if t738 = true then (none) else ((item_Same.f k t722 t723 t724 t725 t726 t727 t722 t723 t724 t725 t726 (t727.take ((wrap64 ((t727.length : Int) - 1)) : Int).toNat)).bind fun t745 => (if t745 = true then (none) else ((item_Same.f k t722 t723 t724 t725 t726 t727 0 0 0 0 0 t727).bind fun t746 => (if t746 = true then (none) else ((item_Same.f k 0 0 0 0 0 ([] : List (S23)) 0 0 0 0 0 ([] : List (S23))).bind fun t747 => (if t747 = true then (some true) else (none)))))))) else (none)) else (none)) else (none))) else (none)) else (none)) else (none)) = some r := by first | (rw [hji9] at H; exact H) | (simp only [hji9] at H ⊢; exact H)
 (try rw [hji9] at A3)
 (try rw [hji9] at A5)
 (try rw [hji9] at A7)
 by_cases c10 : 0 ≤ (ji9)
 rotate_left
 ·rw [if_neg c10] at H
  exact absurd H (by simp)
 rw [if_pos c10] at H
 have c10b0 : decide (0 ≤ (ji9)) = true := decide_eq_true c10
 clear c10
 by_cases c11 : (ji9) < (y731.length : Int)
 rotate_left
 ·rw [if_neg c11] at H
  exact absurd H (by simp)
 rw [if_pos c11] at H
 have c11b0 : decide ((ji9) < (y731.length : Int)) = true := decide_eq_true c11
 clear c11
 by_cases c12 : ((rd_T23 y731 (ji9)).f1).size + 1 ≤ 9223372036854775807
 rotate_left
 ·rw [if_neg c12] at H
  exact absurd H (by simp)
 rw [if_pos c12] at H
 have c12b0 := eq_true c12
 have c12b1 : decide (((rd_T23 y731 (ji9)).f1).size + 1 ≤ 9223372036854775807) = true := decide_eq_true c12
 try have c12b2 : (9223372036854775807 < ((rd_T23 y731 (ji9)).f1).size + 1) = False := eq_false (Nat.not_lt.2 c12)
 obtain ⟨y737, hy737⟩ : ∃ y_ : List (S23), y_ = (y731.set ((ji9) : Int).toNat (⟨(rd_T23 y731 (ji9)).f0, ((rd_T23 y731 (ji9)).f1) ++ (⟨#[122]⟩ : ByteArray), (rd_T23 y731 (ji9)).f2, (rd_T23 y731 (ji9)).f3⟩ : S23)) := ⟨_, rfl⟩
 replace H : ((item_Same.f k t722 t723 t724 t725 t726 t727 t722 t723 t724 t725 t726 y737).bind fun t738 => (if 0 ≤ (wrap64 ((t727.length : Int) - 1)) then (if (wrap64 ((t727.length : Int) - 1)) ≤ (t727.length : Int) then (if t735 = true then (if t738 = true then (none) else ((item_Same.f k t722 t723 t724 t725 t726 t727 t722 t723 t724 t725 t726 (t727.take ((wrap64 ((t727.length : Int) - 1)) : Int).toNat)).bind fun t745 => (if t745 = true then (none) else ((item_Same.f k t722 t723 t724 t725 t726 t727 0 0 0 0 0 t727).bind fun t746 => (if t746 = true then (none) else ((item_Same.f k 0 0 0 0 0 ([] : List (S23)) 0 0 0 0 0 ([] : List (S23))).bind fun t747 => (if t747 = true then (some true) else (none)))))))) else (none)) else (none)) else (none))) = some r := by first | (rw [hy737]; with_reducible exact H) | (have H2_ := (Option.bind_some _ _).symm.trans H; rw [hy737]; with_reducible exact H2_) | (have H2_ := (Option.bind_some _ _).symm.trans H; with_reducible exact H2_) | with_reducible exact H | (rw [hy737]; exact H) | exact H
 have Ny737 := Aside0.mk hy737
 clear hy737
 replace H := Option.bind_eq_some_iff.mp H
 obtain ⟨t738, A140, H⟩ := H
 replace H : (if 0 ≤ (wrap64 ((t727.length : Int) - 1)) then (if (wrap64 ((t727.length : Int) - 1)) ≤ (t727.length : Int) then (if t735 = true then (if t738 = true then (none) else ((item_Same.f k t722 t723 t724 t725 t726 t727 t722 t723 t724 t725 t726 (t727.take ((wrap64 ((t727.length : Int) - 1)) : Int).toNat)).bind fun t745 => (if t745 = true then (none) else ((item_Same.f k t722 t723 t724 t725 t726 t727 0 0 0 0 0 t727).bind fun t746 => (if t746 = true then (none) else ((item_Same.f k 0 0 0 0 0 ([] : List (S23)) 0 0 0 0 0 ([] : List (S23))).bind fun t747 => (if t747 = true then (some true) else (none)))))))) else (none)) else (none)) else (none)) = some r := H
 have A14 := Aside0.mk A140
 clear A140
 obtain ⟨ji15, hji15⟩ : ∃ j_ : Int, (wrap64 ((t727.length : Int) - 1)) = j_ := ⟨_, rfl⟩
 replace H : (if 0 ≤ (ji15) then (if (ji15) ≤ (t727.length : Int) then (if t735 = true then (if t738 = true then (none) else ((item_Same.f k t722 t723 t724 t725 t726 t727 t722 t723 t724 t725 t726 (t727.take ((ji15) : Int).toNat)).bind fun t745 => (if t745 = true then (none) else ((item_Same.f k t722 t723 t724 t725 t726 t727 0 0 0 0 0 t727).bind fun t746 => (if t746 = true then (none) else ((item_Same.f k 0 0 0 0 0 ([] : List (S23)) 0 0 0 0 0 ([] : List (S23))).bind fun t747 => (if t747 = true then (some true) else (none)))))))) else (none)) else (none)) else (none)) = some r := by first | (rw [hji15] at H; exact H) | (simp only [hji15] at H ⊢; exact H)
 (try rw [hji15] at A3)
 (try rw [hji15] at A5)
 (try rw [hji15] at A7)
 (try rw [hji15] at A14)
 have hji15w : (IntKind.i64.wrap ((t727.length : Int) - 1)) = ji15 := (i64_w _).trans hji15
 by_cases c16 : 0 ≤ (ji15)
 rotate_left
 ·rw [if_neg c16] at H
  exact absurd H (by simp)
 rw [if_pos c16] at H
 have c16b0 := eq_true c16
 have c16b1 : decide (0 ≤ (ji15)) = true := decide_eq_true c16
 clear c16
 by_cases c17 : (ji15) ≤ (t727.length : Int)
 rotate_left
 ·rw [if_neg c17] at H
  exact absurd H (by simp)
 rw [if_pos c17] at H
 have c17b0 := eq_true c17
 have c17b1 : decide ((ji15) ≤ (t727.length : Int)) = true := decide_eq_true c17
 clear c17
 obtain ⟨y739, hy739⟩ : ∃ y_ : List (S23), y_ = (t727.take ((ji15) : Int).toNat) := ⟨_, rfl⟩
 replace H : (if t735 = true then (if t738 = true then (none) else ((item_Same.f k t722 t723 t724 t725 t726 t727 t722 t723 t724 t725 t726 y739).bind fun t745 => (if t745 = true then (none) else ((item_Same.f k t722 t723 t724 t725 t726 t727 0 0 0 0 0 t727).bind fun t746 => (if t746 = true then (none) else ((item_Same.f k 0 0 0 0 0 ([] : List (S23)) 0 0 0 0 0 ([] : List (S23))).bind fun t747 => (if t747 = true then (some true) else (none)))))))) else (none)) = some r := by first | (rw [hy739]; with_reducible exact H) | (have H2_ := (Option.bind_some _ _).symm.trans H; rw [hy739]; with_reducible exact H2_) | (have H2_ := (Option.bind_some _ _).symm.trans H; with_reducible exact H2_) | with_reducible exact H | (rw [hy739]; exact H) | exact H
 have Ny739 := Aside0.mk hy739
 clear hy739
 by_cases c18 : t735 = true
 rotate_left
 ·replace c18 := Bool.eq_false_iff.mpr c18
  subst c18
  have H1 : (none) = some r := by rw [if_neg (show ¬ (false = true) by decide)] at H; exact H
  clear H
  have H := H1
  clear H1
  exact absurd H (by simp)
 subst c18
 have H1 : (if t738 = true then (none) else ((item_Same.f k t722 t723 t724 t725 t726 t727 t722 t723 t724 t725 t726 y739).bind fun t745 => (if t745 = true then (none) else ((item_Same.f k t722 t723 t724 t725 t726 t727 0 0 0 0 0 t727).bind fun t746 => (if t746 = true then (none) else ((item_Same.f k 0 0 0 0 0 ([] : List (S23)) 0 0 0 0 0 ([] : List (S23))).bind fun t747 => (if t747 = true then (some true) else (none)))))))) = some r := by rw [if_pos rfl] at H; exact H
 clear H
 have H := H1
 clear H1
 by_cases c19 : t738 = true
 ·subst c19
  have H1 : (none) = some r := by rw [if_pos rfl] at H; exact H
  clear H
  have H := H1
  clear H1
  exact absurd H (by simp)
 replace c19 := Bool.eq_false_iff.mpr c19
 subst c19
 have H1 : ((item_Same.f k t722 t723 t724 t725 t726 t727 t722 t723 t724 t725 t726 y739).bind fun t745 => (if t745 = true then (none) else ((item_Same.f k t722 t723 t724 t725 t726 t727 0 0 0 0 0 t727).bind fun t746 => (if t746 = true then (none) else ((item_Same.f k 0 0 0 0 0 ([] : List (S23)) 0 0 0 0 0 ([] : List (S23))).bind fun t747 => (if t747 = true then (some true) else (none))))))) = some r := by rw [if_neg (show ¬ (false = true) by decide)] at H; exact H
 clear H
 have H := H1
 clear H1
 replace H := Option.bind_eq_some_iff.mp H
 obtain ⟨t745, A200, H⟩ := H
 replace H : (if t745 = true then (none) else ((item_Same.f k t722 t723 t724 t725 t726 t727 0 0 0 0 0 t727).bind fun t746 => (if t746 = true then (none) else ((item_Same.f k 0 0 0 0 0 ([] : List (S23)) 0 0 0 0 0 ([] : List (S23))).bind fun t747 => (if t747 = true then (some true) else (none)))))) = some r := H
 have A20 := Aside0.mk A200
 clear A200
 by_cases c21 : t745 = true
 ·subst c21
  have H1 : (none) = some r := by rw [if_pos rfl] at H; exact H
  clear H
  have H := H1
  clear H1
  exact absurd H (by simp)
 replace c21 := Bool.eq_false_iff.mpr c21
 subst c21
 have H1 : ((item_Same.f k t722 t723 t724 t725 t726 t727 0 0 0 0 0 t727).bind fun t746 => (if t746 = true then (none) else ((item_Same.f k 0 0 0 0 0 ([] : List (S23)) 0 0 0 0 0 ([] : List (S23))).bind fun t747 => (if t747 = true then (some true) else (none))))) = some r := by rw [if_neg (show ¬ (false = true) by decide)] at H; exact H
 clear H
 have H := H1
 clear H1
 replace H := Option.bind_eq_some_iff.mp H
 obtain ⟨t746, A220, H⟩ := H
 replace H : (if t746 = true then (none) else ((item_Same.f k 0 0 0 0 0 ([] : List (S23)) 0 0 0 0 0 ([] : List (S23))).bind fun t747 => (if t747 = true then (some true) else (none)))) = some r := H
 have A22 := Aside0.mk A220
 clear A220
 by_cases c23 : t746 = true
 ·subst c23
  have H1 : (none) = some r := by rw [if_pos rfl] at H; exact H
  clear H
  have H := H1
  clear H1
  exact absurd H (by simp)
 replace c23 := Bool.eq_false_iff.mpr c23
 subst c23
 have H1 : ((item_Same.f k 0 0 0 0 0 ([] : List (S23)) 0 0 0 0 0 ([] : List (S23))).bind fun t747 => (if t747 = true then (some true) else (none))) = some r := by rw [if_neg (show ¬ (false = true) by decide)] at H; exact H
 clear H
 have H := H1
 clear H1
 replace H := Option.bind_eq_some_iff.mp H
 obtain ⟨t747, A240, H⟩ := H
 replace H : (if t747 = true then (some true) else (none)) = some r := H
 have A24 := Aside0.mk A240
 clear A240
 by_cases c25 : t747 = true
 rotate_left
 ·replace c25 := Bool.eq_false_iff.mpr c25
  subst c25
  have H1 : (none) = some r := by rw [if_neg (show ¬ (false = true) by decide)] at H; exact H
  clear H
  have H := H1
  clear H1
  exact absurd H (by simp)
 subst c25
 have H1 : (some true) = some r := by rw [if_pos rfl] at H; exact H
 clear H
 have H := H1
 clear H1
 obtain rfl := Option.some.inj H
 go_enter Try.func9, Try.ntmps9
 try go_wp2_with (first | ((with_reducible refine gate_dst (N := 2) rfl ?_); refine Ka_ 2 #[.int .u64 a0_0, .int .u64 a0_1, .int .u64 a0_2, .int .u64 a0_3, .int .i64 a0_4, .bool a0_5, .slice A0_6 l0_6.length c0_6, .bool a0_7] 35 ?_; intro gb720 hg w26 hbox hb; have BK720 := Aside0.mk (hbox); have GW720 := Kw_ HB hg; have GE720 := GW720; replace HB := Ks_ HB hb; clear hb hbox hg) | ((with_reducible refine gate_callee (f := 11) rfl ?_); refine Kg_ (some 13) rfl rfl Try.func11 (by kernel_rfl) rfl #[] rfl ?_; (with_reducible refine (tenementlaw08_examples.calls k  true _ A3.out).mono ?_); rintro e w27 ⟨rfl, hb⟩; refine ⟨_, rfl, ?_⟩; replace BK720 := Kb_ BK720 hb; replace HB := Ks_ HB hb; (try clear hb); (try clear hb2); (try clear hk); (try clear hi); obtain ⟨hcz28_0, hcz28_1, hcz28_2, hcz28_3, hcz28_4, hcz28_5, hcz28_6, hcz28_7, hfz28_0, hfz28_1, hfz28_2, hfz28_3, hfz28_4, hfz28_5, hfz28_6, hfz28_7⟩ := Ke8_ BK720.out) | ((with_reducible refine gate_callee (f := 14) rfl ?_); refine Kg_ (some 18) rfl rfl Try.func14 (by kernel_rfl) rfl #[.agg #[.int .u64 a0_0, .int .u64 a0_1, .int .u64 a0_2, .int .u64 a0_3, .int .i64 a0_4, .bool a0_5, .slice A0_6 l0_6.length c0_6, .bool true]] rfl ?_; (with_reducible refine (tenementlaw08_Deal_deal.calls k a0_0 a0_1 a0_2 a0_3 a0_4 a0_5 _ _ l0_6 true t722 t723 t724 t725 t726 t727 _ ?side1 ?side2 A5.out).mono ?_); (case side1 => exact Kd.C_below HR0_6.out (Kz_ HB GE720)); (case side2 => exact HC0_6.out); rintro e w29 ⟨v728, rfl, ho0, hb⟩; refine ⟨_, rfl, ?_⟩; have HO729 := Aside0.mk (Kd.R_lower ho0 (below_size (Kz_ HB GE720))); replace BK720 := Aside0.mk (blk_below (g := gb720) (o := .cells #[.int .u64 a0_0, .int .u64 a0_1, .int .u64 a0_2, .int .u64 a0_3, .int .i64 a0_4, .bool a0_5, .slice A0_6 l0_6.length c0_6, .bool true] 35 (0, 0)) (by refine Kv_ ?_; refine blk_put (cs := #[.int .u64 a0_0, .int .u64 a0_1, .int .u64 a0_2, .int .u64 a0_3, .int .i64 a0_4, .bool a0_5, .slice A0_6 l0_6.length c0_6, .bool a0_7]) ?_ 7 _ rfl; exact Kq_ BK720) hb); replace HB := Kt_ HB GE720 hb; (try clear hb); (try clear hb2); (try clear hk); (try clear hi); (try clear ho0)) | ((with_reducible refine gate_dst (N := 6) rfl ?_); refine Ka_ 6 #[.int .u64 0, .int .u64 0, .int .u64 0, .int .u64 0, .int .i64 0, .slice none 0 0] 43 ?_; intro gb730 hg w30 hbox hb; have BK730 := Aside0.mk (hbox); have GW730 := Kw_ HB hg; have GE730 := GW730; have NB720_730 := Kl_ BK720 hg; have NB730_720 := Kr_ BK720 hg; replace HO729 := Aside0.mk (Kd.R_below (Ku_ HO729) hb); replace BK720 := Kb_ BK720 hb; replace HB := Ks_ HB hb; clear hb hbox hg; have hnb31 := NB730_720.out; have hnc31 := NB720_730.out; obtain ⟨hcz32_0, hcz32_1, hcz32_2, hcz32_3, hcz32_4, hcz32_5, hfz32_0, hfz32_1, hfz32_2, hfz32_3, hfz32_4, hfz32_5⟩ := Ke6_ BK730.out; obtain ⟨Ao33, co33, eo33⟩ := Kd.R_slice HO729.out; subst eo33))
 have n0_ : Aside0 (Kd.R k23 23 ((((((w30.setCell ⟨gb730, 0, none⟩ (.int .u64 t722)).setCell ⟨gb730, 1, none⟩ (.int .u64 t723)).setCell ⟨gb730, 2, none⟩ (.int .u64 t724)).setCell ⟨gb730, 3, none⟩ (.int .u64 t725)).setCell ⟨gb730, 4, none⟩ (.int .i64 t726)).setCell ⟨gb730, 5, none⟩ (.slice Ao33 t727.length co33)) w.heap.size (fun _ => True) (.slice Ao33 t727.length co33) t727) := ⟨by (with_reducible repeat (first | apply Kd.R_alloc | apply Kd.R_drewN | apply Kd.R_drew)); exact Kd.R_mono (Kd.R_far (p := ⟨gb730, 5, none⟩) (Kd.R_far (p := ⟨gb730, 4, none⟩) (Kd.R_far (p := ⟨gb730, 3, none⟩) (Kd.R_far (p := ⟨gb730, 2, none⟩) (Kd.R_far (p := ⟨gb730, 1, none⟩) (Kd.R_far (p := ⟨gb730, 0, none⟩) (Kd.R_types HO729.out BK730.out (by decide)) (fun _ hk => hk.2) (.int .u64 t722)) (fun _ hk => hk.2) (.int .u64 t723)) (fun _ hk => hk.2) (.int .u64 t724)) (fun _ hk => hk.2) (.int .u64 t725)) (fun _ hk => hk.2) (.int .i64 t726)) (fun _ hk => hk.2) (.slice Ao33 t727.length co33)) (fun _ hk => trivial)⟩
 have n1_ : Aside0 (((((((w30.setCell ⟨gb730, 0, none⟩ (.int .u64 t722)).setCell ⟨gb730, 1, none⟩ (.int .u64 t723)).setCell ⟨gb730, 2, none⟩ (.int .u64 t724)).setCell ⟨gb730, 3, none⟩ (.int .u64 t725)).setCell ⟨gb730, 4, none⟩ (.int .i64 t726)).setCell ⟨gb730, 5, none⟩ (.slice Ao33 t727.length co33)).heap[gb720]? = some (.cells #[.int .u64 a0_0, .int .u64 a0_1, .int .u64 a0_2, .int .u64 a0_3, .int .i64 a0_4, .bool a0_5, .slice A0_6 l0_6.length c0_6, .bool true] 35 (0, 0))) := ⟨by exact K1b_ BK720 NB720_730⟩
 have n2_ : Aside0 (((((((w30.setCell ⟨gb730, 0, none⟩ (.int .u64 t722)).setCell ⟨gb730, 1, none⟩ (.int .u64 t723)).setCell ⟨gb730, 2, none⟩ (.int .u64 t724)).setCell ⟨gb730, 3, none⟩ (.int .u64 t725)).setCell ⟨gb730, 4, none⟩ (.int .i64 t726)).setCell ⟨gb730, 5, none⟩ (.slice Ao33 t727.length co33)).heap[gb730]? = some (.cells #[.int .u64 t722, .int .u64 t723, .int .u64 t724, .int .u64 t725, .int .i64 t726, .slice Ao33 t727.length co33] 43 (0, 0))) := ⟨by refine Kv_ ?_; refine blk_put (cs := #[.int .u64 t722, .int .u64 t723, .int .u64 t724, .int .u64 t725, .int .i64 t726, .slice none 0 0]) ?_ 5 _ rfl; refine Kv_ ?_; refine blk_put (cs := #[.int .u64 t722, .int .u64 t723, .int .u64 t724, .int .u64 t725, .int .i64 0, .slice none 0 0]) ?_ 4 _ rfl; refine Kv_ ?_; refine blk_put (cs := #[.int .u64 t722, .int .u64 t723, .int .u64 t724, .int .u64 0, .int .i64 0, .slice none 0 0]) ?_ 3 _ rfl; refine Kv_ ?_; refine blk_put (cs := #[.int .u64 t722, .int .u64 t723, .int .u64 0, .int .u64 0, .int .i64 0, .slice none 0 0]) ?_ 2 _ rfl; refine Kv_ ?_; refine blk_put (cs := #[.int .u64 t722, .int .u64 0, .int .u64 0, .int .u64 0, .int .i64 0, .slice none 0 0]) ?_ 1 _ rfl; refine Kv_ ?_; refine blk_put (cs := #[.int .u64 0, .int .u64 0, .int .u64 0, .int .u64 0, .int .i64 0, .slice none 0 0]) ?_ 0 _ rfl; exact Kq_ BK730⟩
 have n3_ : Aside0 (Below w.heap.size w ((((((w30.setCell ⟨gb730, 0, none⟩ (.int .u64 t722)).setCell ⟨gb730, 1, none⟩ (.int .u64 t723)).setCell ⟨gb730, 2, none⟩ (.int .u64 t724)).setCell ⟨gb730, 3, none⟩ (.int .u64 t725)).setCell ⟨gb730, 4, none⟩ (.int .i64 t726)).setCell ⟨gb730, 5, none⟩ (.slice Ao33 t727.length co33))) := ⟨K2a_ HB GE720 GE730⟩
 (try clear HO729)
 (try clear BK720)
 (try clear BK730)
 (try clear HB)
 generalize ((((((w30.setCell ⟨gb730, 0, none⟩ (.int .u64 t722)).setCell ⟨gb730, 1, none⟩ (.int .u64 t723)).setCell ⟨gb730, 2, none⟩ (.int .u64 t724)).setCell ⟨gb730, 3, none⟩ (.int .u64 t725)).setCell ⟨gb730, 4, none⟩ (.int .i64 t726)).setCell ⟨gb730, 5, none⟩ (.slice Ao33 t727.length co33)) = w34 at n0_ n1_ n2_ n3_ ⊢
 have HO729 := n0_
 have BK720 := n1_
 have BK730 := n2_
 have HB := n3_
 clear n0_ n1_ n2_ n3_
 replace HO729 := Aside0.mk (Kd.R_drew HO729.out)
 replace BK720 := Kd_ BK720
 replace BK730 := Kd_ BK730
 replace HB := Aside0.mk (below_drew1 HB.out)
 refine start_ (n := 8) (S := fun w' => w'.cell? ⟨gb730, 0, none⟩ = some (.int .u64 t722) ∧ w'.cell? ⟨gb730, 1, none⟩ = some (.int .u64 t723) ∧ w'.cell? ⟨gb730, 2, none⟩ = some (.int .u64 t724) ∧ w'.cell? ⟨gb730, 3, none⟩ = some (.int .u64 t725) ∧ w'.cell? ⟨gb730, 4, none⟩ = some (.int .i64 t726) ∧ w'.cell? ⟨gb730, 5, none⟩ = some (.slice Ao33 t727.length co33)) (ds := []) (mB_ 8 0) (by kernel_rfl) rfl rfl (Kc6_ BK730.out) (fun hHeld => ?_); refine with_tabW tenementlaw08_ItemSame.tab6 tenementlaw08_ItemSame.bits6 (fun HT_ HW_ => ?_)
 generalize w34.drew = w35 at HO729 BK720 BK730 HB hHeld ⊢
 refine Kp_ 0 19 (mB_ 8 1) (any_of HT_.out (by kernel_rfl)) ?_
 refine Kp_ 2 21 (mB_ 8 5) (any_of HT_.out (by kernel_rfl)) ?_
 refine Ko_ 1 20 (mB_ 8 7) (take_ofW HT_.out HW_.out (by kernel_rfl)) hHeld ?_
 refine Ko_ 3 22 (mB_ 8 15) (take_ofW HT_.out HW_.out (by kernel_rfl)) hHeld ?_
 refine join_ (σ := Value × Nat) 1 (mB_ 8 127) (fun s_ => [(23, s_.1), (7, .pointer (some ⟨s_.2, 0, none⟩)), (24, .agg #[.int .u64 t722, .int .u64 t723, .int .u64 t724, .int .u64 t725, .int .i64 t726, s_.1])]) (fun s_ w' => (w'.cell? ⟨gb730, 0, none⟩ = some (.int .u64 t722) ∧ w'.cell? ⟨gb730, 1, none⟩ = some (.int .u64 t723) ∧ w'.cell? ⟨gb730, 2, none⟩ = some (.int .u64 t724) ∧ w'.cell? ⟨gb730, 3, none⟩ = some (.int .u64 t725) ∧ w'.cell? ⟨gb730, 4, none⟩ = some (.int .i64 t726) ∧ w'.cell? ⟨gb730, 5, none⟩ = some (.slice Ao33 t727.length co33)) ∧ (Kd.R k23 23 w' w.heap.size (fun k_ => some k_ ≠ (s_.1 : Value).ownBlock) (.slice Ao33 t727.length co33) t727) ∧ (Kd.R k23 23 w' w.heap.size (fun k_ => some k_ ≠ (.slice Ao33 t727.length co33 : Value).ownBlock) s_.1 y731) ∧ (w'.heap[gb720]? = some (.cells #[.int .u64 a0_0, .int .u64 a0_1, .int .u64 a0_2, .int .u64 a0_3, .int .i64 a0_4, .bool a0_5, .slice A0_6 l0_6.length c0_6, .bool true] 35 (0, 0))) ∧ (w'.heap[gb730]? = some (.cells #[.int .u64 t722, .int .u64 t723, .int .u64 t724, .int .u64 t725, .int .i64 t726, .slice Ao33 t727.length co33] 43 (0, 0))) ∧ (w'.heap[s_.2]? = some (.cells #[.int .u64 0, .int .u64 0, .int .u64 0, .int .u64 0, .int .i64 0, .slice none 0 0] 43 (0, 0))) ∧ (w.heap.size ≤ s_.2) ∧ (w.heap.size ≤ s_.2) ∧ (gb720 ≠ s_.2) ∧ (s_.2 ≠ gb720) ∧ (gb730 ≠ s_.2) ∧ (s_.2 ≠ gb730) ∧ (Below w.heap.size w w')) ?_ ?_
 rotate_left
 ·intro hCont
  refine two_ (i := 4) (j := 6) (Ni := some 23) (Nj := some 7) (mB_ 8 31) (mB_ 8 79) rfl rfl rfl rfl (two_of HT_.out (by kernel_rfl)) (by decide) (by decide) (fun K hK => ?_) (fun K hK => ?_)
  ·skip
   refine Kd.R_append_rows_step k23 (w0 := w) w.heap.size rfl (.const (.slice none 0 0)) (.tmp 22) 41 23 (.agg #[(.string ⟨#[]⟩), (.string ⟨#[]⟩), (.string ⟨#[]⟩), (.bool false)]) 56 rfl Try.underlying41 info23 rfl (by decide) (by omega) (.slice none 0 0) ([] : List (S23)) t727 _ _ _ (fun k_ => some k_ ≠ (.slice Ao33 t727.length co33 : Value).ownBlock) (fun _ => False) rfl rfl ?aO ?aR (fun _ _ h => h) (fun _ h => h.elim) ?aF ?aB ?aS ?aL ?_
   (case aR => repeat (first | exact (Kd.R_reads' HO729.out).2.2 | (with_reducible refine Kd.C_alloc ?_ _) | (with_reducible refine Kd.C_drewN ?_ _) | (with_reducible refine Kd.C_drew ?_)))
   (case aB => exact (K2a_ HB GE720 GE730))
   (case aF => exact (fun k_ hk => Kd.fresh' (Kd.R_lt (Ku_ HO729)) k_ hk))
   (case aO => exact ((Kd.R_nil _ _ _ _ (fun k_ => some k_ ≠ (.slice Ao33 t727.length co33 : Value).ownBlock))))
   (case aS => exact (below_size (K2a_ HB GE720 GE730)))
   (case aL => have := LMc6.out; omega)
   intro v732 w36 ho hb hg hat
   rw [← Ny731.out] at ho
   have HO733 := Aside0.mk (ho)
   replace BK720 := Aside0.mk (blk_grown (g := gb720) (o := .cells #[.int .u64 a0_0, .int .u64 a0_1, .int .u64 a0_2, .int .u64 a0_3, .int .i64 a0_4, .bool a0_5, .slice A0_6 l0_6.length c0_6, .bool true] 35 (0, 0)) (Kq_ BK720) hg (by simp [Value.ownBlock]))
   replace HO729 := Aside0.mk (Kd.R_after (Kd.R_apart_nil (Ku_ HO729)) hg hat)
   replace BK730 := Aside0.mk (blk_grown (g := gb730) (o := .cells #[.int .u64 t722, .int .u64 t723, .int .u64 t724, .int .u64 t725, .int .i64 t726, .slice Ao33 t727.length co33] 43 (0, 0)) (Kq_ BK730) hg (by simp [Value.ownBlock]))
   replace HB := Aside0.mk (hb)
   clear ho hb hg hat
   obtain ⟨Ao37, co37, eo37⟩ := Kd.R_slice HO733.out
   (first | subst eo37 | (injection eo37 with f1_ f2_ f3_; have f4_ := f1_.symm; have f5_ := f3_.symm; clear f1_ f2_ f3_; subst f4_; subst f5_))
   refine hK.out _ _ (Kc6_ BK730.out) (fun hHeld => ?_)
   clear hK K
   refine Kn_ 23 ?_
   refine Kp_ 5 24 (mB_ 8 63) (any_of HT_.out (by kernel_rfl)) ?_
   refine one_ (i := 6) (N := some 7) (mB_ 8 127) rfl rfl (one_of HT_.out (by kernel_rfl)) (by decide) (fun K hK => ?_)
   refine box_step ?hg (N := 7) ?hd (cs := #[.int .u64 0, .int .u64 0, .int .u64 0, .int .u64 0, .int .i64 0, .slice none 0 0]) (t := 43) ?hr ?_; (case hd => rfl); (case hg => rfl); (case hr => first | (go_simp; done) | (go_simp; rfl))
   intro gb734 hg w38 hbox hb
   have BK734 := Aside0.mk (hbox)
   have GW734 := Kw_ HB hg
   have GE734 := GW734
   have NB720_734 := Kl_ BK720 hg
   have NB734_720 := Kr_ BK720 hg
   have NB730_734 := Kl_ BK730 hg
   have NB734_730 := Kr_ BK730 hg
   replace HO729 := Aside0.mk (Kd.R_below (Ku_ HO729) hb)
   replace HO733 := Aside0.mk (Kd.R_below (Ku_ HO733) hb)
   replace BK720 := Kb_ BK720 hb
   replace BK730 := Kb_ BK730 hb
   replace HB := Ks_ HB hb
   clear hb hbox hg
   refine hK.out _ _ (Kc6_ BK730.out) (fun hHeld => ?_)
   clear hK K
   refine Kn_ 7 ?_
   exact norm_ (by simp only [putAll, Act.put, List.setIfInBounds_toArray, List.set_cons_zero, List.set_cons_succ]) (hCont (.slice Ao37 y731.length co37, gb734) _ ⟨hHeld, (by (with_reducible repeat (first | apply Kd.R_alloc | apply Kd.R_drewN | apply Kd.R_drew)); exact Kd.R_mono HO729.out (fun _ hk => hk.2)), (Ku_ HO733), (Kq_ BK720), (Kq_ BK730), (Kq_ BK734), GW734.out, GE734.out, NB720_734.out, NB734_720.out, NB730_734.out, NB734_730.out, (K3a_ HB GE720 GE730 GE734)⟩)
  ·skip
   refine box_step ?hg (N := 7) ?hd (cs := #[.int .u64 0, .int .u64 0, .int .u64 0, .int .u64 0, .int .i64 0, .slice none 0 0]) (t := 43) ?hr ?_; (case hd => rfl); (case hg => rfl); (case hr => first | (go_simp; done) | (go_simp; rfl))
   intro gb734 hg w36 hbox hb
   have BK734 := Aside0.mk (hbox)
   have GW734 := Kw_ HB hg
   have GE734 := GW734
   have NB720_734 := Kl_ BK720 hg
   have NB734_720 := Kr_ BK720 hg
   have NB730_734 := Kl_ BK730 hg
   have NB734_730 := Kr_ BK730 hg
   replace HO729 := Aside0.mk (Kd.R_below (Ku_ HO729) hb)
   replace BK720 := Kb_ BK720 hb
   replace BK730 := Kb_ BK730 hb
   replace HB := Ks_ HB hb
   clear hb hbox hg
   refine hK.out _ _ (Kc6_ BK730.out) (fun hHeld => ?_)
   clear hK K
   refine Kn_ 7 ?_
   refine one_ (i := 4) (N := some 23) (mB_ 8 95) rfl rfl (one_of HT_.out (by kernel_rfl)) (by decide) (fun K hK => ?_)
   refine Kd.R_append_rows_step k23 (w0 := w) w.heap.size rfl (.const (.slice none 0 0)) (.tmp 22) 41 23 (.agg #[(.string ⟨#[]⟩), (.string ⟨#[]⟩), (.string ⟨#[]⟩), (.bool false)]) 56 rfl Try.underlying41 info23 rfl (by decide) (by omega) (.slice none 0 0) ([] : List (S23)) t727 _ _ _ (fun k_ => some k_ ≠ (.slice Ao33 t727.length co33 : Value).ownBlock) (fun _ => False) rfl rfl ?aO ?aR (fun _ _ h => h) (fun _ h => h.elim) ?aF ?aB ?aS ?aL ?_
   (case aR => repeat (first | exact (Kd.R_reads' HO729.out).2.2 | (with_reducible refine Kd.C_alloc ?_ _) | (with_reducible refine Kd.C_drewN ?_ _) | (with_reducible refine Kd.C_drew ?_)))
   (case aB => exact (K3a_ HB GE720 GE730 GE734))
   (case aF => exact (fun k_ hk => Kd.fresh' (Kd.R_lt (Ku_ HO729)) k_ hk))
   (case aO => exact ((Kd.R_nil _ _ _ _ (fun k_ => some k_ ≠ (.slice Ao33 t727.length co33 : Value).ownBlock))))
   (case aS => exact (below_size (K3a_ HB GE720 GE730 GE734)))
   (case aL => have := LMc6.out; omega)
   intro v732 w37 ho hb hg hat
   rw [← Ny731.out] at ho
   have HO733 := Aside0.mk (ho)
   replace BK720 := Aside0.mk (blk_grown (g := gb720) (o := .cells #[.int .u64 a0_0, .int .u64 a0_1, .int .u64 a0_2, .int .u64 a0_3, .int .i64 a0_4, .bool a0_5, .slice A0_6 l0_6.length c0_6, .bool true] 35 (0, 0)) (Kq_ BK720) hg (by simp [Value.ownBlock]))
   replace HO729 := Aside0.mk (Kd.R_after (Kd.R_apart_nil (Ku_ HO729)) hg hat)
   replace BK730 := Aside0.mk (blk_grown (g := gb730) (o := .cells #[.int .u64 t722, .int .u64 t723, .int .u64 t724, .int .u64 t725, .int .i64 t726, .slice Ao33 t727.length co33] 43 (0, 0)) (Kq_ BK730) hg (by simp [Value.ownBlock]))
   replace BK734 := Aside0.mk (blk_grown (g := gb734) (o := .cells #[.int .u64 0, .int .u64 0, .int .u64 0, .int .u64 0, .int .i64 0, .slice none 0 0] 43 (0, 0)) (Kq_ BK734) hg (by simp [Value.ownBlock]))
   replace HB := Aside0.mk (hb)
   clear ho hb hg hat
   obtain ⟨Ao38, co38, eo38⟩ := Kd.R_slice HO733.out
   (first | subst eo38 | (injection eo38 with f1_ f2_ f3_; have f4_ := f1_.symm; have f5_ := f3_.symm; clear f1_ f2_ f3_; subst f4_; subst f5_))
   refine hK.out _ _ (Kc6_ BK730.out) (fun hHeld => ?_)
   clear hK K
   refine Kn_ 23 ?_
   refine Kp_ 5 24 (mB_ 8 127) (any_of HT_.out (by kernel_rfl)) ?_
   exact norm_ (by simp only [putAll, Act.put, List.setIfInBounds_toArray, List.set_cons_zero, List.set_cons_succ]) (hCont (.slice Ao38 y731.length co38, gb734) _ ⟨hHeld, (by (with_reducible repeat (first | apply Kd.R_alloc | apply Kd.R_drewN | apply Kd.R_drew)); exact Kd.R_mono HO729.out (fun _ hk => hk.2)), (Ku_ HO733), (Kq_ BK720), (Kq_ BK730), (Kq_ BK734), GW734.out, GE734.out, NB720_734.out, NB734_720.out, NB730_734.out, NB734_730.out, (K3a_ HB GE720 GE730 GE734)⟩)
 rintro ⟨v732, gb734⟩ w39 ⟨hS_, h0_, h1_, h2_, h3_, h4_, h5_, h6_, h7_, h8_, h9_, h10_, h11_⟩
 have n0_ : Aside0 (Kd.R k23 23 w39 w.heap.size (fun k_ => some k_ ≠ (v732 : Value).ownBlock) (.slice Ao33 t727.length co33) t727) := ⟨h0_⟩
 have n1_ : Aside0 (Kd.R k23 23 w39 w.heap.size (fun k_ => some k_ ≠ (.slice Ao33 t727.length co33 : Value).ownBlock) v732 y731) := ⟨h1_⟩
 have n2_ : Aside0 (w39.heap[gb720]? = some (.cells #[.int .u64 a0_0, .int .u64 a0_1, .int .u64 a0_2, .int .u64 a0_3, .int .i64 a0_4, .bool a0_5, .slice A0_6 l0_6.length c0_6, .bool true] 35 (0, 0))) := ⟨h2_⟩
 have n3_ : Aside0 (w39.heap[gb730]? = some (.cells #[.int .u64 t722, .int .u64 t723, .int .u64 t724, .int .u64 t725, .int .i64 t726, .slice Ao33 t727.length co33] 43 (0, 0))) := ⟨h3_⟩
 have n4_ : Aside0 (w39.heap[gb734]? = some (.cells #[.int .u64 0, .int .u64 0, .int .u64 0, .int .u64 0, .int .i64 0, .slice none 0 0] 43 (0, 0))) := ⟨h4_⟩
 have n5_ : Aside0 (w.heap.size ≤ gb734) := ⟨h5_⟩
 have n6_ : Aside0 (w.heap.size ≤ gb734) := ⟨h6_⟩
 have n7_ : Aside0 (gb720 ≠ gb734) := ⟨h7_⟩
 have n8_ : Aside0 (gb734 ≠ gb720) := ⟨h8_⟩
 have n9_ : Aside0 (gb730 ≠ gb734) := ⟨h9_⟩
 have n10_ : Aside0 (gb734 ≠ gb730) := ⟨h10_⟩
 have n11_ : Aside0 (Below w.heap.size w w39) := ⟨h11_⟩
 clear HO729
 clear BK720
 clear BK730
 clear HB
 clear h0_ h1_ h2_ h3_ h4_ h5_ h6_ h7_ h8_ h9_ h10_ h11_
 have HO729 := n0_
 have HO733 := n1_
 have BK720 := n2_
 have BK730 := n3_
 have BK734 := n4_
 have GW734 := n5_
 have GE734 := n6_
 have NB720_734 := n7_
 have NB734_720 := n8_
 have NB730_734 := n9_
 have NB734_730 := n10_
 have HB := n11_
 clear n0_ n1_ n2_ n3_ n4_ n5_ n6_ n7_ n8_ n9_ n10_ n11_
 have hHeld : w39.cell? ⟨gb730, 0, none⟩ = some (.int .u64 t722) ∧ w39.cell? ⟨gb730, 1, none⟩ = some (.int .u64 t723) ∧ w39.cell? ⟨gb730, 2, none⟩ = some (.int .u64 t724) ∧ w39.cell? ⟨gb730, 3, none⟩ = some (.int .u64 t725) ∧ w39.cell? ⟨gb730, 4, none⟩ = some (.int .i64 t726) ∧ w39.cell? ⟨gb730, 5, none⟩ = some (.slice Ao33 t727.length co33) := hS_
 obtain ⟨Ao40, co40, eo40⟩ := Kd.R_slice HO733.out
 (first | subst eo40 | (injection eo40 with f1_ f2_ f3_; have f4_ := f1_.symm; have f5_ := f3_.symm; clear f1_ f2_ f3_; subst f4_; subst f5_))
 refine norm_ (a' := ?_) ?_ ?_
 rotate_left
 ·simp only [putAll, Act.put, List.setIfInBounds_toArray, List.set_cons_zero, List.set_cons_succ]
  rfl
 refine one_ (i := 7) (N := none) (mB_ 8 255) rfl rfl (one_of HT_.out (by kernel_rfl)) (by decide) (fun K hK => ?_)
 have hs41 : w39.cell? ⟨gb734, 0, none⟩ = some (.int .u64 0) := (blk_cell BK734.out 0).trans rfl
 have hfs41 := blk_frozen BK734.out 0
 have hns41_0 := NB720_734.out
 have hns41_1 := NB730_734.out
 have hms41_0 := NB734_720.out
 have hms41_1 := NB734_730.out
 have hs42 : w39.cell? ⟨gb734, 1, none⟩ = some (.int .u64 0) := (blk_cell BK734.out 1).trans rfl
 have hfs42 := blk_frozen BK734.out 1
 have hns42_0 := NB720_734.out
 have hns42_1 := NB730_734.out
 have hms42_0 := NB734_720.out
 have hms42_1 := NB734_730.out
 have hs43 : w39.cell? ⟨gb734, 2, none⟩ = some (.int .u64 0) := (blk_cell BK734.out 2).trans rfl
 have hfs43 := blk_frozen BK734.out 2
 have hns43_0 := NB720_734.out
 have hns43_1 := NB730_734.out
 have hms43_0 := NB734_720.out
 have hms43_1 := NB734_730.out
 have hs44 : w39.cell? ⟨gb734, 3, none⟩ = some (.int .u64 0) := (blk_cell BK734.out 3).trans rfl
 have hfs44 := blk_frozen BK734.out 3
 have hns44_0 := NB720_734.out
 have hns44_1 := NB730_734.out
 have hms44_0 := NB734_720.out
 have hms44_1 := NB734_730.out
 have hs45 : w39.cell? ⟨gb734, 4, none⟩ = some (.int .i64 0) := (blk_cell BK734.out 4).trans rfl
 have hfs45 := blk_frozen BK734.out 4
 have hns45_0 := NB720_734.out
 have hns45_1 := NB730_734.out
 have hms45_0 := NB734_720.out
 have hms45_1 := NB734_730.out
 have hs46 : w39.cell? ⟨gb734, 5, none⟩ = some (.slice none 0 0) := (blk_cell BK734.out 5).trans rfl
 have hfs46 := blk_frozen BK734.out 5
 have hns46_0 := NB720_734.out
 have hns46_1 := NB730_734.out
 have hms46_0 := NB734_720.out
 have hms46_1 := NB734_730.out
 refine skip_ (w1 := ?_) (by rfl) rfl ?_ ?_
 rotate_left
 ·go_simp
  rfl
 refine hK.out _ _ ⟨(Kj_ NB730_734 ((Kj_ NB730_734 ((Kj_ NB730_734 ((Kj_ NB730_734 ((Kj_ NB730_734 ((Kj_ NB730_734 (hHeld.1)))))))))))), (Kj_ NB730_734 ((Kj_ NB730_734 ((Kj_ NB730_734 ((Kj_ NB730_734 ((Kj_ NB730_734 ((Kj_ NB730_734 (hHeld.2.1)))))))))))), (Kj_ NB730_734 ((Kj_ NB730_734 ((Kj_ NB730_734 ((Kj_ NB730_734 ((Kj_ NB730_734 ((Kj_ NB730_734 (hHeld.2.2.1)))))))))))), (Kj_ NB730_734 ((Kj_ NB730_734 ((Kj_ NB730_734 ((Kj_ NB730_734 ((Kj_ NB730_734 ((Kj_ NB730_734 (hHeld.2.2.2.1)))))))))))), (Kj_ NB730_734 ((Kj_ NB730_734 ((Kj_ NB730_734 ((Kj_ NB730_734 ((Kj_ NB730_734 ((Kj_ NB730_734 (hHeld.2.2.2.2.1)))))))))))), (Kj_ NB730_734 ((Kj_ NB730_734 ((Kj_ NB730_734 ((Kj_ NB730_734 ((Kj_ NB730_734 ((Kj_ NB730_734 (hHeld.2.2.2.2.2))))))))))))⟩ (fun hHeld => ?_)
 clear hK K
 refine done_ (done_of HT_.out (by kernel_rfl)) ?_
 have hnb47 := NB730_734.out
 have hnc47 := NB734_730.out
 obtain ⟨hcz48_0, hcz48_1, hcz48_2, hcz48_3, hcz48_4, hcz48_5, hfz48_0, hfz48_1, hfz48_2, hfz48_3, hfz48_4, hfz48_5⟩ := Ke6_ BK730.out
 have hnb49 := NB734_720.out
 have hnc49 := NB720_734.out
 obtain ⟨hcz50_0, hcz50_1, hcz50_2, hcz50_3, hcz50_4, hcz50_5, hfz50_0, hfz50_1, hfz50_2, hfz50_3, hfz50_4, hfz50_5⟩ := Ke6_ BK734.out
 try go_wp2_with (first | ((with_reducible refine gate_callee (f := 24) rfl ?_); refine Kg_ (some 27) rfl rfl Try.func24 (by kernel_rfl) rfl #[.agg #[.int .u64 t722, .int .u64 t723, .int .u64 t724, .int .u64 t725, .int .i64 t726, .slice Ao33 t727.length co33], .agg #[.int .u64 t722, .int .u64 t723, .int .u64 t724, .int .u64 t725, .int .i64 t726, .slice Ao40 y731.length co40]] rfl ?_; (with_reducible refine (item_Same.calls k t722 t723 t724 t725 t726 _ _ t727 t722 t723 t724 t725 t726 _ _ y731 true _ ?side1 ?side2 ?side3 ?side4 A7.out).mono ?_); (case side1 => refine (Kd.R_reads' (e := 23) (base := w.heap.size) (ok := fun k_ => some k_ ≠ (.slice Ao40 y731.length co40 : Value).ownBlock) (n := t727.length) (c := co33) ?_).2.2; exact (by (with_reducible repeat (first | apply Kd.R_alloc | apply Kd.R_drewN | apply Kd.R_drew)); exact (Kd.R_mono (Kd.R_far (p := ⟨gb734, 5, none⟩) (Kd.R_far (p := ⟨gb734, 4, none⟩) (Kd.R_far (p := ⟨gb734, 3, none⟩) (Kd.R_far (p := ⟨gb734, 2, none⟩) (Kd.R_far (p := ⟨gb734, 1, none⟩) (Kd.R_far (p := ⟨gb734, 0, none⟩) (Kd.R_types HO729.out BK734.out (by decide)) (fun _ hk => hk.2) (.int .u64 t722)) (fun _ hk => hk.2) (.int .u64 t723)) (fun _ hk => hk.2) (.int .u64 t724)) (fun _ hk => hk.2) (.int .u64 t725)) (fun _ hk => hk.2) (.int .i64 t726)) (fun _ hk => hk.2) (.slice Ao40 y731.length co40)) (fun _ h_ => h_.1)))); (case side2 => exact (Kd.R_reads' HO729.out).2.1); (case side3 => refine (Kd.R_reads' (e := 23) (base := w.heap.size) (ok := fun k_ => some k_ ≠ (.slice Ao33 t727.length co33 : Value).ownBlock) (n := y731.length) (c := co40) ?_).2.2; exact (by (with_reducible repeat (first | apply Kd.R_alloc | apply Kd.R_drewN | apply Kd.R_drew)); exact (Kd.R_mono (Kd.R_far (p := ⟨gb734, 5, none⟩) (Kd.R_far (p := ⟨gb734, 4, none⟩) (Kd.R_far (p := ⟨gb734, 3, none⟩) (Kd.R_far (p := ⟨gb734, 2, none⟩) (Kd.R_far (p := ⟨gb734, 1, none⟩) (Kd.R_far (p := ⟨gb734, 0, none⟩) (Kd.R_types HO733.out BK734.out (by decide)) (fun _ hk => hk.2) (.int .u64 t722)) (fun _ hk => hk.2) (.int .u64 t723)) (fun _ hk => hk.2) (.int .u64 t724)) (fun _ hk => hk.2) (.int .u64 t725)) (fun _ hk => hk.2) (.int .i64 t726)) (fun _ hk => hk.2) (.slice Ao40 y731.length co40)) (fun _ h_ => h_.1)))); (case side4 => exact (Kd.R_reads' HO733.out).2.1); rintro e w51 ⟨rfl, hb⟩; refine ⟨_, rfl, ?_⟩; replace HO729 := Aside0.mk (Kd.R_below (by (with_reducible repeat (first | apply Kd.R_alloc | apply Kd.R_drewN | apply Kd.R_drew)); exact (Kd.R_mono (Kd.R_far (p := ⟨gb734, 5, none⟩) (Kd.R_far (p := ⟨gb734, 4, none⟩) (Kd.R_far (p := ⟨gb734, 3, none⟩) (Kd.R_far (p := ⟨gb734, 2, none⟩) (Kd.R_far (p := ⟨gb734, 1, none⟩) (Kd.R_far (p := ⟨gb734, 0, none⟩) (Kd.R_types HO729.out BK734.out (by decide)) (fun _ hk => hk.2) (.int .u64 t722)) (fun _ hk => hk.2) (.int .u64 t723)) (fun _ hk => hk.2) (.int .u64 t724)) (fun _ hk => hk.2) (.int .u64 t725)) (fun _ hk => hk.2) (.int .i64 t726)) (fun _ hk => hk.2) (.slice Ao40 y731.length co40)) (fun _ h_ => h_.1))) hb); replace HO733 := Aside0.mk (Kd.R_below (by (with_reducible repeat (first | apply Kd.R_alloc | apply Kd.R_drewN | apply Kd.R_drew)); exact (Kd.R_mono (Kd.R_far (p := ⟨gb734, 5, none⟩) (Kd.R_far (p := ⟨gb734, 4, none⟩) (Kd.R_far (p := ⟨gb734, 3, none⟩) (Kd.R_far (p := ⟨gb734, 2, none⟩) (Kd.R_far (p := ⟨gb734, 1, none⟩) (Kd.R_far (p := ⟨gb734, 0, none⟩) (Kd.R_types HO733.out BK734.out (by decide)) (fun _ hk => hk.2) (.int .u64 t722)) (fun _ hk => hk.2) (.int .u64 t723)) (fun _ hk => hk.2) (.int .u64 t724)) (fun _ hk => hk.2) (.int .u64 t725)) (fun _ hk => hk.2) (.int .i64 t726)) (fun _ hk => hk.2) (.slice Ao40 y731.length co40)) (fun _ h_ => h_.1))) hb); replace BK720 := Kf_ BK720 NB720_734 hb; replace BK730 := Kf_ BK730 NB730_734 hb; replace BK734 := Aside0.mk (blk_below (g := gb734) (o := .cells #[.int .u64 t722, .int .u64 t723, .int .u64 t724, .int .u64 t725, .int .i64 t726, .slice Ao40 y731.length co40] 43 (0, 0)) (by refine Kv_ ?_; refine blk_put (cs := #[.int .u64 t722, .int .u64 t723, .int .u64 t724, .int .u64 t725, .int .i64 t726, .slice none 0 0]) ?_ 5 _ rfl; refine Kv_ ?_; refine blk_put (cs := #[.int .u64 t722, .int .u64 t723, .int .u64 t724, .int .u64 t725, .int .i64 0, .slice none 0 0]) ?_ 4 _ rfl; refine Kv_ ?_; refine blk_put (cs := #[.int .u64 t722, .int .u64 t723, .int .u64 t724, .int .u64 0, .int .i64 0, .slice none 0 0]) ?_ 3 _ rfl; refine Kv_ ?_; refine blk_put (cs := #[.int .u64 t722, .int .u64 t723, .int .u64 0, .int .u64 0, .int .i64 0, .slice none 0 0]) ?_ 2 _ rfl; refine Kv_ ?_; refine blk_put (cs := #[.int .u64 t722, .int .u64 0, .int .u64 0, .int .u64 0, .int .i64 0, .slice none 0 0]) ?_ 1 _ rfl; refine Kv_ ?_; refine blk_put (cs := #[.int .u64 0, .int .u64 0, .int .u64 0, .int .u64 0, .int .i64 0, .slice none 0 0]) ?_ 0 _ rfl; exact Kq_ BK734) hb); replace HB := Kt_ HB GE734 hb; (try clear hb); (try clear hb2); (try clear hk); (try clear hi); obtain ⟨hcz52_0, hcz52_1, hcz52_2, hcz52_3, hcz52_4, hcz52_5, hfz52_0, hfz52_1, hfz52_2, hfz52_3, hfz52_4, hfz52_5⟩ := Ke6_ BK734.out))
 replace HO729 := Aside0.mk (Kd.R_drew HO729.out)
 replace HO733 := Aside0.mk (Kd.R_drew HO733.out)
 replace BK720 := Kd_ BK720
 replace BK730 := Kd_ BK730
 replace BK734 := Kd_ BK734
 replace HB := Aside0.mk (below_drew1 HB.out)
 have p736 : 0 ≤ ((ji9) : Int) := of_decide_eq_true (by first | (with_reducible assumption) | assumption)
 have q736 : (ji9) < (y731.length : Int) := of_decide_eq_true (by first | (with_reducible assumption) | assumption)
 obtain ⟨ad736, e736, hx736_0, hx736_1, hx736_2, hx736_3⟩ := at_T23 (Kd.R_reads' HO733.out).2.2 (ji9) p736 q736
 cases e736
 replace p736 := eq_true p736
 replace q736 := eq_true q736
 have p13 : 0 ≤ ((ji9) : Int) := of_decide_eq_true (by first | (with_reducible assumption) | assumption)
 have q13 : ((ji9) : Int) < ((y731.length : Int) : Int) := of_decide_eq_true (by first | (with_reducible assumption) | assumption)
 obtain ⟨go13, co13, eo13, gb13, gl13, cl13, HG13⟩ := Kd.R_form HO733.out (by omega)
 (first | cases eo13 | (injection eo13 with ea_ en_ ec_; (first | subst ea_ | (injection ea_ with ea_; subst ea_)); subst ec_; clear en_))
 have GB13 := Aside0.mk gb13
 have GG13 := Aside0.mk HG13
 clear gb13 gl13 HG13
 (first | simp only [add_plain] at hx736_0 | skip)
 (first | simp only [add_plain] at hx736_1 | skip)
 (first | simp only [add_plain] at hx736_2 | skip)
 (first | simp only [add_plain] at hx736_3 | skip)
 obtain ⟨ce13, hcl13, hM13, hcc13, hfr13⟩ := Kd.R_elem HO733.out z23 ((ji9) : Int) p13 q13
 obtain rfl := k23_openM hM13
 have hx13_0 : World.cell? _ ⟨go13, ((ji9) : Int).toNat * 4, none⟩ = some (.string ((rd_T23 y731 (ji9)).f0)) := hcc13 0 _ rfl
 have hx13_1 : World.cell? _ ⟨go13, ((ji9) : Int).toNat * 4 + 1, none⟩ = some (.string ((rd_T23 y731 (ji9)).f1)) := hcc13 1 _ rfl
 have hx13_2 : World.cell? _ ⟨go13, ((ji9) : Int).toNat * 4 + 2, none⟩ = some (.string ((rd_T23 y731 (ji9)).f2)) := hcc13 2 _ rfl
 have hx13_3 : World.cell? _ ⟨go13, ((ji9) : Int).toNat * 4 + 3, none⟩ = some (.bool ((rd_T23 y731 (ji9)).f3)) := hcc13 3 _ rfl
 have hf13_0 : World.frozen? _ ⟨go13, ((ji9) : Int).toNat * 4, none⟩ = false := hfr13 0
 have hf13_1 : World.frozen? _ ⟨go13, ((ji9) : Int).toNat * 4 + 1, none⟩ = false := hfr13 1
 have hf13_2 : World.frozen? _ ⟨go13, ((ji9) : Int).toNat * 4 + 2, none⟩ = false := hfr13 2
 have hf13_3 : World.frozen? _ ⟨go13, ((ji9) : Int).toNat * 4 + 3, none⟩ = false := hfr13 3
 clear hcl13 hcc13 hfr13 hM13
 replace p13 := eq_true p13
 replace q13 := eq_true q13
 obtain ⟨ce54, hcl54, hM54, hcc54, hfr54⟩ := Kd.R_elem HO733.out z23 ((ji9) : Int) (of_decide_eq_true (by first | (with_reducible assumption) | assumption)) (by have h_ : ((ji9) : Int) < ((y731.length : Int) : Int) := of_decide_eq_true (by first | (with_reducible assumption) | assumption); first | exact h_ | (have e_ := (Kd.R_reads' HO733.out).1; omega) | simpa using h_)
 obtain rfl := k23_openM hM54
 have HP54 := (Kd.R_seg HO733.out ((ji9) : Int) (of_decide_eq_true (by first | (with_reducible assumption) | assumption)) (by have h_ : ((ji9) : Int) < ((y731.length : Int) : Int) := of_decide_eq_true (by first | (with_reducible assumption) | assumption); first | exact h_ | (have e_ := (Kd.R_reads' HO733.out).1; omega) | simpa using h_) (seg := [.string (((rd_T23 y731 (ji9)).f1) ++ (⟨#[122]⟩ : ByteArray))]) (j := 1) hcl54 hcc54 (show 2 ≤ 4 from by decide) (x' := (⟨(rd_T23 y731 (ji9)).f0, ((rd_T23 y731 (ji9)).f1) ++ (⟨#[122]⟩ : ByteArray), (rd_T23 y731 (ji9)).f2, (rd_T23 y731 (ji9)).f3⟩ : S23)) (k23_mkM _ _ _ (⟨(rd_T23 y731 (ji9)).f0, ((rd_T23 y731 (ji9)).f1) ++ (⟨#[122]⟩ : ByteArray), (rd_T23 y731 (ji9)).f2, (rd_T23 y731 (ji9)).f3⟩ : S23) ) (fun _ hk => hk)).1
 rw [← Ny737.out] at HP54
 have HQ54 := Aside0.mk HP54
 clear hcl54 hcc54 hfr54 hM54 HP54
 refine start_ (n := 13) (S := fun w' => w'.cell? ⟨gb734, 0, none⟩ = some (.int .u64 t722) ∧ w'.cell? ⟨gb734, 1, none⟩ = some (.int .u64 t723) ∧ w'.cell? ⟨gb734, 2, none⟩ = some (.int .u64 t724) ∧ w'.cell? ⟨gb734, 3, none⟩ = some (.int .u64 t725) ∧ w'.cell? ⟨gb734, 4, none⟩ = some (.int .i64 t726) ∧ w'.cell? ⟨gb734, 5, none⟩ = some (.slice (some ⟨go13, 0, none⟩) y731.length co40) ∧ w'.cell? ⟨go13, ((ji9) : Int).toNat * 4, none⟩ = some (.string ((rd_T23 y731 (ji9)).f0)) ∧ w'.cell? ⟨go13, ((ji9) : Int).toNat * 4 + 1, none⟩ = some (.string ((rd_T23 y731 (ji9)).f1)) ∧ w'.cell? ⟨go13, ((ji9) : Int).toNat * 4 + 2, none⟩ = some (.string ((rd_T23 y731 (ji9)).f2)) ∧ w'.cell? ⟨go13, ((ji9) : Int).toNat * 4 + 3, none⟩ = some (.bool ((rd_T23 y731 (ji9)).f3))) (ds := [12]) (mB_ 13 0) (by kernel_rfl) rfl rfl ⟨Km_ BK734 0, Km_ BK734 1, Km_ BK734 2, Km_ BK734 3, Km_ BK734 4, Km_ BK734 5, hx13_0, hx13_1, hx13_2, hx13_3⟩ (fun hHeld => ?_); refine with_tabW tenementlaw08_ItemSame.tab9 tenementlaw08_ItemSame.bits9 (fun HT_ HW_ => ?_)
 generalize w51.drew = w53 at HO729 HO733 BK720 BK730 BK734 HB GG13 HQ54 hf13_0 hf13_1 hf13_2 hf13_3 hx13_0 hx13_1 hx13_2 hx13_3 hx736_0 hx736_1 hx736_2 hx736_3 hHeld ⊢
 refine Kp_ 0 34 (mB_ 13 1) (any_of HT_.out (by kernel_rfl)) ?_
 refine Kp_ 2 36 (mB_ 13 5) (any_of HT_.out (by kernel_rfl)) ?_
 refine Kp_ 3 37 (mB_ 13 13) (any_of HT_.out (by kernel_rfl)) ?_
 refine Kp_ 5 39 (mB_ 13 45) (any_of HT_.out (by kernel_rfl)) ?_
 refine Ko_ 1 35 (mB_ 13 47) (take_ofW HT_.out HW_.out (by kernel_rfl)) hHeld ?_
 refine Ko_ 4 38 (mB_ 13 63) (take_ofW HT_.out HW_.out (by kernel_rfl)) hHeld ?_
 refine Kp_ 6 40 (mB_ 13 127) (any_of HT_.out (by kernel_rfl)) ?_
 refine Kp_ 7 41 (mB_ 13 255) (any_of HT_.out (by kernel_rfl)) ?_
 refine Ko_ 8 42 (mB_ 13 511) (take_ofW HT_.out HW_.out (by kernel_rfl)) hHeld ?_
 refine Kp_ 9 43 (mB_ 13 1023) (any_of HT_.out (by kernel_rfl)) ?_
 refine Kp_ 10 44 (mB_ 13 2047) (any_of HT_.out (by kernel_rfl)) ?_
 refine Kp_ 11 45 (mB_ 13 4095) (any_of HT_.out (by kernel_rfl)) ?_
 refine last_ (i := 12) (N := none) (mB_ 13 8191) rfl rfl (one_of HT_.out (by kernel_rfl)) (by decide) (fun K hK => ?_)
 refine skip_ (w1 := ?_) (by rfl) rfl ?_ ?_
 rotate_left
 ·go_simp
  rfl
 refine hK.out _ _ ?_
 clear hK K
 refine done_ (done_of HT_.out (by kernel_rfl)) ?_
 have n0_ : Aside0 (Kd.R k23 23 (w53.setCell ⟨go13, ((ji9) : Int).toNat * 4 + 1, none⟩ (.string (((rd_T23 y731 (ji9)).f1) ++ (⟨#[122]⟩ : ByteArray)))) w.heap.size (fun k_ => some k_ ≠ (.slice (some ⟨go13, 0, none⟩) y731.length co40 : Value).ownBlock) (.slice Ao33 t727.length co33) t727) := ⟨by (with_reducible repeat (first | apply Kd.R_alloc | apply Kd.R_drewN | apply Kd.R_drew)); exact Kd.R_mono (Kd.R_far (p := ⟨go13, ((ji9) : Int).toNat * 4 + 1, none⟩) (Kd.R_mono HO729.out (fun k_ hk => (⟨hk, fun e_ => hk (by rw [e_]; rfl)⟩ : _ ∧ k_ ≠ go13))) (fun _ hk => hk.2) (.string (((rd_T23 y731 (ji9)).f1) ++ (⟨#[122]⟩ : ByteArray)))) (fun _ hk => hk.1)⟩
 (try (have n0_s_ := n0_; simp only [ByteArray.size_append, Int.natCast_add] at n0_s_))
 have n1_ : Aside0 (Kd.R k23 23 (w53.setCell ⟨go13, ((ji9) : Int).toNat * 4 + 1, none⟩ (.string (((rd_T23 y731 (ji9)).f1) ++ (⟨#[122]⟩ : ByteArray)))) w.heap.size (fun k_ => some k_ ≠ (.slice Ao33 t727.length co33 : Value).ownBlock) (.slice (some ⟨go13, 0, none⟩) y731.length co40) y737) := ⟨by (with_reducible repeat (first | apply Kd.R_alloc | apply Kd.R_drewN | apply Kd.R_drew)); exact HQ54.out⟩
 (try (have n1_s_ := n1_; simp only [ByteArray.size_append, Int.natCast_add] at n1_s_))
 have n2_ : Aside0 ((w53.setCell ⟨go13, ((ji9) : Int).toNat * 4 + 1, none⟩ (.string (((rd_T23 y731 (ji9)).f1) ++ (⟨#[122]⟩ : ByteArray)))).heap[gb720]? = some (.cells #[.int .u64 a0_0, .int .u64 a0_1, .int .u64 a0_2, .int .u64 a0_3, .int .i64 a0_4, .bool a0_5, .slice A0_6 l0_6.length c0_6, .bool true] 35 (0, 0))) := ⟨by (with_reducible repeat (first | refine blk_drewN ?_ _ | refine blk_drew ?_ | refine blk_alloc ?_ _)); refine blk_far ?_ (by have h_ := Kd.R_ne HO733.out BK720.out (by decide); intro e_; exact h_ (by rw [e_]; rfl)) _; exact Kq_ BK720⟩
 have n3_ : Aside0 ((w53.setCell ⟨go13, ((ji9) : Int).toNat * 4 + 1, none⟩ (.string (((rd_T23 y731 (ji9)).f1) ++ (⟨#[122]⟩ : ByteArray)))).heap[gb730]? = some (.cells #[.int .u64 t722, .int .u64 t723, .int .u64 t724, .int .u64 t725, .int .i64 t726, .slice Ao33 t727.length co33] 43 (0, 0))) := ⟨by (with_reducible repeat (first | refine blk_drewN ?_ _ | refine blk_drew ?_ | refine blk_alloc ?_ _)); refine blk_far ?_ (by have h_ := Kd.R_ne HO733.out BK730.out (by decide); intro e_; exact h_ (by rw [e_]; rfl)) _; exact Kq_ BK730⟩
 have n4_ : Aside0 ((w53.setCell ⟨go13, ((ji9) : Int).toNat * 4 + 1, none⟩ (.string (((rd_T23 y731 (ji9)).f1) ++ (⟨#[122]⟩ : ByteArray)))).heap[gb734]? = some (.cells #[.int .u64 t722, .int .u64 t723, .int .u64 t724, .int .u64 t725, .int .i64 t726, .slice (some ⟨go13, 0, none⟩) y731.length co40] 43 (0, 0))) := ⟨by (with_reducible repeat (first | refine blk_drewN ?_ _ | refine blk_drew ?_ | refine blk_alloc ?_ _)); refine blk_far ?_ (by have h_ := Kd.R_ne HO733.out BK734.out (by decide); intro e_; exact h_ (by rw [e_]; rfl)) _; exact Kq_ BK734⟩
 have n5_ : Aside0 (Below w.heap.size w (w53.setCell ⟨go13, ((ji9) : Int).toNat * 4 + 1, none⟩ (.string (((rd_T23 y731 (ji9)).f1) ++ (⟨#[122]⟩ : ByteArray))))) := ⟨by repeat (first | (with_reducible first | exact HB.out | apply below_alloc | apply pw_below_drewN | apply below_drew1 | refine below_set ?_ GB13.out | refine below_set ?_ GE720.out | refine below_set ?_ GE730.out | refine below_set ?_ GE734.out) | exact HB.out)⟩
 (try (have n5_s_ := n5_; simp only [ByteArray.size_append, Int.natCast_add] at n5_s_))
 (try clear HO729)
 (try clear HO733)
 (try clear BK720)
 (try clear BK730)
 (try clear BK734)
 (try clear HB)
 generalize (w53.setCell ⟨go13, ((ji9) : Int).toNat * 4 + 1, none⟩ (.string (((rd_T23 y731 (ji9)).f1) ++ (⟨#[122]⟩ : ByteArray)))) = w55 at n0_ n1_ n2_ n3_ n4_ n5_ ⊢
 have HO729 := n0_
 have HO733 := n1_
 have BK720 := n2_
 have BK730 := n3_
 have BK734 := n4_
 have HB := n5_
 clear n0_ n1_ n2_ n3_ n4_ n5_
 obtain ⟨hcz56_0, hcz56_1, hcz56_2, hcz56_3, hcz56_4, hcz56_5, hfz56_0, hfz56_1, hfz56_2, hfz56_3, hfz56_4, hfz56_5⟩ := Ke6_ BK730.out
 obtain ⟨hcz57_0, hcz57_1, hcz57_2, hcz57_3, hcz57_4, hcz57_5, hfz57_0, hfz57_1, hfz57_2, hfz57_3, hfz57_4, hfz57_5⟩ := Ke6_ BK734.out
 try go_wp2_with (first | ((with_reducible refine gate_callee (f := 24) rfl ?_); refine goesL_ (some 48) rfl rfl Try.func24 (by kernel_rfl) rfl #[.agg #[.int .u64 t722, .int .u64 t723, .int .u64 t724, .int .u64 t725, .int .i64 t726, .slice Ao33 t727.length co33], .agg #[.int .u64 t722, .int .u64 t723, .int .u64 t724, .int .u64 t725, .int .i64 t726, .slice (some ⟨go13, 0, none⟩) y737.length co40]] rfl (by (try simp only [List.map_toArray, List.map_cons, List.map_nil]); first | done | (rw [show y737.length = y731.length from (Kd.R_reads' HO733.out).1.symm] <;> rfl) | rfl | (simp only [List.length_drop, List.length_take]; rfl)) ?_; (with_reducible refine (item_Same.calls k t722 t723 t724 t725 t726 _ _ t727 t722 t723 t724 t725 t726 _ _ y737 false _ ?side1 ?side2 ?side3 ?side4 A14.out).mono ?_); (case side1 => repeat (first | exact (Kd.R_reads' HO729.out).2.2 | (with_reducible refine Kd.C_alloc ?_ _) | (with_reducible refine Kd.C_drewN ?_ _) | (with_reducible refine Kd.C_drew ?_))); (case side2 => exact (Kd.R_reads' HO729.out).2.1); (case side3 => repeat (first | exact (Kd.R_reads' HO733.out).2.2 | (with_reducible refine Kd.C_alloc ?_ _) | (with_reducible refine Kd.C_drewN ?_ _) | (with_reducible refine Kd.C_drew ?_))); (case side4 => rw [show y737.length = y731.length from (Kd.R_reads' HO733.out).1.symm]; exact (Kd.R_reads' HO733.out).2.1); rintro e w58 ⟨rfl, hb⟩; refine ⟨_, rfl, ?_⟩; replace HO729 := Aside0.mk (Kd.R_below (Ku_ HO729) hb); replace HO733 := Aside0.mk (Kd.R_below (Ku_ HO733) hb); replace BK720 := Kb_ BK720 hb; replace BK730 := Kb_ BK730 hb; replace BK734 := Kb_ BK734 hb; replace HB := Ks_ HB hb; (try clear hb); (try clear hb2); (try clear hk); (try clear hi)))
 replace HO729 := Aside0.mk (Kd.R_drew HO729.out)
 replace HO733 := Aside0.mk (Kd.R_drew HO733.out)
 replace BK720 := Kd_ BK720
 replace BK730 := Kd_ BK730
 replace BK734 := Kd_ BK734
 replace HB := Aside0.mk (below_drew1 HB.out)
 have q60 : ((ji15) : Int) ≤ ((t727.length : Int) : Int) := of_decide_eq_true (by first | (with_reducible assumption) | assumption)
 obtain ⟨i060, hi060, _, hsz60, _⟩ := info_parts info23
 have hroom60 : t727.length ≤ co33 := (Kd.R_reads' HO729.out).2.1
 have hC60 : Kd.C k23 _ Ao33 t727.length t727 := (Kd.R_reads' HO729.out).2.2
 have hcut60 := cut_to (P := Try.prog) 41 23 .i64 Try.underlying41 hi060 Ao33 t727.length co33 (ji15) (of_decide_eq_true (by first | (with_reducible assumption) | assumption)) q60 hroom60
 have hr60 := Kd.C_take (m := ((ji15) : Int).toNat) hC60 (by omega)
 have hy60 : y739.length = ((ji15) : Int).toNat := (by rw [Ny739.out, List.length_take]; omega)
 rw [← Ny739.out] at hr60
 rw [← hy60] at hcut60
 have HR742 := Aside0.mk hr60
 have HC742 := Aside0.mk (show y739.length ≤ co33 from by omega)
 clear hr60 hC60 hroom60 hi060 hsz60
 have KY60 := Aside0.mk hy60
 clear hy60
 have KL60 := Aside0.mk (show ((ji15) : Int).toNat ≤ t727.length from by omega)
 replace q60 := eq_true q60
 refine start_ (n := 12) (S := fun w' => w'.cell? ⟨gb730, 0, none⟩ = some (.int .u64 t722) ∧ w'.cell? ⟨gb730, 1, none⟩ = some (.int .u64 t723) ∧ w'.cell? ⟨gb730, 2, none⟩ = some (.int .u64 t724) ∧ w'.cell? ⟨gb730, 3, none⟩ = some (.int .u64 t725) ∧ w'.cell? ⟨gb730, 4, none⟩ = some (.int .i64 t726) ∧ w'.cell? ⟨gb730, 5, none⟩ = some (.slice Ao33 t727.length co33)) (ds := []) (mB_ 12 0) (by kernel_rfl) rfl rfl (Kc6_ BK730.out) (fun hHeld => ?_); refine with_tabW tenementlaw08_ItemSame.tab11 tenementlaw08_ItemSame.bits11 (fun HT_ HW_ => ?_)
 generalize w58.drew = w59 at HO729 HO733 BK720 BK730 BK734 HB HR742 hHeld ⊢
 refine Kp_ 0 49 (mB_ 12 1) (any_of HT_.out (by kernel_rfl)) ?_
 refine Kp_ 2 51 (mB_ 12 5) (any_of HT_.out (by kernel_rfl)) ?_
 refine Kp_ 4 53 (mB_ 12 21) (any_of HT_.out (by kernel_rfl)) ?_
 refine Ko_ 1 50 (mB_ 12 23) (take_ofW HT_.out HW_.out (by kernel_rfl)) hHeld ?_
 refine Ko_ 3 52 (mB_ 12 31) (take_ofW HT_.out HW_.out (by kernel_rfl)) hHeld ?_
 refine Ko_ 5 54 (mB_ 12 63) (take_ofW HT_.out HW_.out (by kernel_rfl)) hHeld ?_
 refine Kp_ 6 55 (mB_ 12 127) (any_of HT_.out (by kernel_rfl)) ?_
 refine Kp_ 7 56 (mB_ 12 255) (any_of HT_.out (by kernel_rfl)) ?_
 refine Kp_ 8 57 (mB_ 12 511) (any_of HT_.out (by kernel_rfl)) ?_
 refine Kp_ 9 58 (mB_ 12 1023) (any_of HT_.out (by kernel_rfl)) ?_
 refine one_ (i := 10) (N := some 11) (mB_ 12 2047) rfl rfl (one_of HT_.out (by kernel_rfl)) (by decide) (fun K hK => ?_)
 refine box_step ?hg (N := 11) ?hd (cs := #[.int .u64 0, .int .u64 0, .int .u64 0, .int .u64 0, .int .i64 0, .slice none 0 0]) (t := 43) ?hr ?_; (case hd => rfl); (case hg => rfl); (case hr => first | (go_simp; done) | (go_simp; rfl))
 intro gb743 hg w61 hbox hb
 have BK743 := Aside0.mk (hbox)
 have GW743 := Kw_ HB hg
 have GE743 := GW743
 have NB720_743 := Kl_ BK720 hg
 have NB743_720 := Kr_ BK720 hg
 have NB730_743 := Kl_ BK730 hg
 have NB743_730 := Kr_ BK730 hg
 have NB734_743 := Kl_ BK734 hg
 have NB743_734 := Kr_ BK734 hg
 have HXHR742_743 := Aside0.mk (Kseen_ (by repeat (first | (with_reducible exact HR742.out) | (with_reducible refine Kd.C_alloc ?_ _) | (with_reducible refine Kd.C_drewN ?_ _) | (with_reducible refine Kd.C_drew ?_) | exact HR742.out)) hb hg)
 replace HO729 := Aside0.mk (Kd.R_below (Ku_ HO729) hb)
 replace HO733 := Aside0.mk (Kd.R_below (Ku_ HO733) hb)
 replace BK720 := Kb_ BK720 hb
 replace BK730 := Kb_ BK730 hb
 replace BK734 := Kb_ BK734 hb
 replace HR742 := Aside0.mk (Kd.C_below (by repeat (first | (with_reducible exact HR742.out) | (with_reducible refine Kd.C_alloc ?_ _) | (with_reducible refine Kd.C_drewN ?_ _) | (with_reducible refine Kd.C_drew ?_) | exact HR742.out)) hb)
 replace HB := Ks_ HB hb
 clear hb hbox hg
 refine hK.out _ _ (Kc6_ BK730.out) (fun hHeld => ?_)
 clear hK K
 refine Kn_ 11 ?_
 refine one_ (i := 11) (N := none) (mB_ 12 4095) rfl rfl (one_of HT_.out (by kernel_rfl)) (by decide) (fun K hK => ?_)
 have hs62 : w61.cell? ⟨gb743, 0, none⟩ = some (.int .u64 0) := (blk_cell BK743.out 0).trans rfl
 have hfs62 := blk_frozen BK743.out 0
 have hns62_0 := NB720_743.out
 have hns62_1 := NB730_743.out
 have hns62_2 := NB734_743.out
 have hms62_0 := NB743_720.out
 have hms62_1 := NB743_730.out
 have hms62_2 := NB743_734.out
 have hs63 : w61.cell? ⟨gb743, 1, none⟩ = some (.int .u64 0) := (blk_cell BK743.out 1).trans rfl
 have hfs63 := blk_frozen BK743.out 1
 have hns63_0 := NB720_743.out
 have hns63_1 := NB730_743.out
 have hns63_2 := NB734_743.out
 have hms63_0 := NB743_720.out
 have hms63_1 := NB743_730.out
 have hms63_2 := NB743_734.out
 have hs64 : w61.cell? ⟨gb743, 2, none⟩ = some (.int .u64 0) := (blk_cell BK743.out 2).trans rfl
 have hfs64 := blk_frozen BK743.out 2
 have hns64_0 := NB720_743.out
 have hns64_1 := NB730_743.out
 have hns64_2 := NB734_743.out
 have hms64_0 := NB743_720.out
 have hms64_1 := NB743_730.out
 have hms64_2 := NB743_734.out
 have hs65 : w61.cell? ⟨gb743, 3, none⟩ = some (.int .u64 0) := (blk_cell BK743.out 3).trans rfl
 have hfs65 := blk_frozen BK743.out 3
 have hns65_0 := NB720_743.out
 have hns65_1 := NB730_743.out
 have hns65_2 := NB734_743.out
 have hms65_0 := NB743_720.out
 have hms65_1 := NB743_730.out
 have hms65_2 := NB743_734.out
 have hs66 : w61.cell? ⟨gb743, 4, none⟩ = some (.int .i64 0) := (blk_cell BK743.out 4).trans rfl
 have hfs66 := blk_frozen BK743.out 4
 have hns66_0 := NB720_743.out
 have hns66_1 := NB730_743.out
 have hns66_2 := NB734_743.out
 have hms66_0 := NB743_720.out
 have hms66_1 := NB743_730.out
 have hms66_2 := NB743_734.out
 have hs67 : w61.cell? ⟨gb743, 5, none⟩ = some (.slice none 0 0) := (blk_cell BK743.out 5).trans rfl
 have hfs67 := blk_frozen BK743.out 5
 have hns67_0 := NB720_743.out
 have hns67_1 := NB730_743.out
 have hns67_2 := NB734_743.out
 have hms67_0 := NB743_720.out
 have hms67_1 := NB743_730.out
 have hms67_2 := NB743_734.out
 refine skip_ (w1 := ?_) (by rfl) rfl ?_ ?_
 rotate_left
 ·go_simp
  rfl
 refine hK.out _ _ ⟨(Kj_ NB730_743 ((Kj_ NB730_743 ((Kj_ NB730_743 ((Kj_ NB730_743 ((Kj_ NB730_743 ((Kj_ NB730_743 (hHeld.1)))))))))))), (Kj_ NB730_743 ((Kj_ NB730_743 ((Kj_ NB730_743 ((Kj_ NB730_743 ((Kj_ NB730_743 ((Kj_ NB730_743 (hHeld.2.1)))))))))))), (Kj_ NB730_743 ((Kj_ NB730_743 ((Kj_ NB730_743 ((Kj_ NB730_743 ((Kj_ NB730_743 ((Kj_ NB730_743 (hHeld.2.2.1)))))))))))), (Kj_ NB730_743 ((Kj_ NB730_743 ((Kj_ NB730_743 ((Kj_ NB730_743 ((Kj_ NB730_743 ((Kj_ NB730_743 (hHeld.2.2.2.1)))))))))))), (Kj_ NB730_743 ((Kj_ NB730_743 ((Kj_ NB730_743 ((Kj_ NB730_743 ((Kj_ NB730_743 ((Kj_ NB730_743 (hHeld.2.2.2.2.1)))))))))))), (Kj_ NB730_743 ((Kj_ NB730_743 ((Kj_ NB730_743 ((Kj_ NB730_743 ((Kj_ NB730_743 ((Kj_ NB730_743 (hHeld.2.2.2.2.2))))))))))))⟩ (fun hHeld => ?_)
 clear hK K
 refine done_ (done_of HT_.out (by kernel_rfl)) ?_
 have hnb68 := NB730_743.out
 have hnc68 := NB743_730.out
 obtain ⟨hcz69_0, hcz69_1, hcz69_2, hcz69_3, hcz69_4, hcz69_5, hfz69_0, hfz69_1, hfz69_2, hfz69_3, hfz69_4, hfz69_5⟩ := Ke6_ BK730.out
 try go_wp2_with (first | ((with_reducible refine gate_dst (N := 12) rfl ?_); refine Ka_ 12 #[.int .u64 0, .int .u64 0, .int .u64 0, .int .u64 0, .int .i64 0, .slice none 0 0] 43 ?_; intro gb744 hg w70 hbox hb; have BK744 := Aside0.mk (hbox); have GW744 := Kx_ HB GE743 hg; have GE744 := GW744; have NB720_744 := Aside0.mk ((by rw [hg]; exact Nat.ne_of_lt (blk_lt (g := gb720) (o := .cells #[.int .u64 a0_0, .int .u64 a0_1, .int .u64 a0_2, .int .u64 a0_3, .int .i64 a0_4, .bool a0_5, .slice A0_6 l0_6.length c0_6, .bool true] 35 (0, 0)) (K1b_ BK720 NB720_743)) : gb720 ≠ gb744)); have NB744_720 := Aside0.mk ((by rw [hg]; exact Nat.ne_of_gt (blk_lt (g := gb720) (o := .cells #[.int .u64 a0_0, .int .u64 a0_1, .int .u64 a0_2, .int .u64 a0_3, .int .i64 a0_4, .bool a0_5, .slice A0_6 l0_6.length c0_6, .bool true] 35 (0, 0)) (K1b_ BK720 NB720_743)) : gb744 ≠ gb720)); have NB730_744 := Aside0.mk ((by rw [hg]; exact Nat.ne_of_lt (blk_lt (g := gb730) (o := .cells #[.int .u64 t722, .int .u64 t723, .int .u64 t724, .int .u64 t725, .int .i64 t726, .slice Ao33 t727.length co33] 43 (0, 0)) (K1b_ BK730 NB730_743)) : gb730 ≠ gb744)); have NB744_730 := Aside0.mk ((by rw [hg]; exact Nat.ne_of_gt (blk_lt (g := gb730) (o := .cells #[.int .u64 t722, .int .u64 t723, .int .u64 t724, .int .u64 t725, .int .i64 t726, .slice Ao33 t727.length co33] 43 (0, 0)) (K1b_ BK730 NB730_743)) : gb744 ≠ gb730)); have NB734_744 := Aside0.mk ((by rw [hg]; exact Nat.ne_of_lt (blk_lt (g := gb734) (o := .cells #[.int .u64 t722, .int .u64 t723, .int .u64 t724, .int .u64 t725, .int .i64 t726, .slice (some ⟨go13, 0, none⟩) y731.length co40] 43 (0, 0)) (K1b_ BK734 NB734_743)) : gb734 ≠ gb744)); have NB744_734 := Aside0.mk ((by rw [hg]; exact Nat.ne_of_gt (blk_lt (g := gb734) (o := .cells #[.int .u64 t722, .int .u64 t723, .int .u64 t724, .int .u64 t725, .int .i64 t726, .slice (some ⟨go13, 0, none⟩) y731.length co40] 43 (0, 0)) (K1b_ BK734 NB734_743)) : gb744 ≠ gb734)); have NB743_744 := Aside0.mk ((by rw [hg]; exact Nat.ne_of_lt (blk_lt (g := gb743) (o := .cells #[.int .u64 t722, .int .u64 t723, .int .u64 t724, .int .u64 t725, .int .i64 t726, .slice Ao33 y739.length co33] 43 (0, 0)) (by refine Kv_ ?_; refine blk_put (cs := #[.int .u64 t722, .int .u64 t723, .int .u64 t724, .int .u64 t725, .int .i64 t726, .slice none 0 0]) ?_ 5 _ rfl; refine Kv_ ?_; refine blk_put (cs := #[.int .u64 t722, .int .u64 t723, .int .u64 t724, .int .u64 t725, .int .i64 0, .slice none 0 0]) ?_ 4 _ rfl; refine Kv_ ?_; refine blk_put (cs := #[.int .u64 t722, .int .u64 t723, .int .u64 t724, .int .u64 0, .int .i64 0, .slice none 0 0]) ?_ 3 _ rfl; refine Kv_ ?_; refine blk_put (cs := #[.int .u64 t722, .int .u64 t723, .int .u64 0, .int .u64 0, .int .i64 0, .slice none 0 0]) ?_ 2 _ rfl; refine Kv_ ?_; refine blk_put (cs := #[.int .u64 t722, .int .u64 0, .int .u64 0, .int .u64 0, .int .i64 0, .slice none 0 0]) ?_ 1 _ rfl; refine Kv_ ?_; refine blk_put (cs := #[.int .u64 0, .int .u64 0, .int .u64 0, .int .u64 0, .int .i64 0, .slice none 0 0]) ?_ 0 _ rfl; exact Kq_ BK743)) : gb743 ≠ gb744)); have NB744_743 := Aside0.mk ((by rw [hg]; exact Nat.ne_of_gt (blk_lt (g := gb743) (o := .cells #[.int .u64 t722, .int .u64 t723, .int .u64 t724, .int .u64 t725, .int .i64 t726, .slice Ao33 y739.length co33] 43 (0, 0)) (by refine Kv_ ?_; refine blk_put (cs := #[.int .u64 t722, .int .u64 t723, .int .u64 t724, .int .u64 t725, .int .i64 t726, .slice none 0 0]) ?_ 5 _ rfl; refine Kv_ ?_; refine blk_put (cs := #[.int .u64 t722, .int .u64 t723, .int .u64 t724, .int .u64 t725, .int .i64 0, .slice none 0 0]) ?_ 4 _ rfl; refine Kv_ ?_; refine blk_put (cs := #[.int .u64 t722, .int .u64 t723, .int .u64 t724, .int .u64 0, .int .i64 0, .slice none 0 0]) ?_ 3 _ rfl; refine Kv_ ?_; refine blk_put (cs := #[.int .u64 t722, .int .u64 t723, .int .u64 0, .int .u64 0, .int .i64 0, .slice none 0 0]) ?_ 2 _ rfl; refine Kv_ ?_; refine blk_put (cs := #[.int .u64 t722, .int .u64 0, .int .u64 0, .int .u64 0, .int .i64 0, .slice none 0 0]) ?_ 1 _ rfl; refine Kv_ ?_; refine blk_put (cs := #[.int .u64 0, .int .u64 0, .int .u64 0, .int .u64 0, .int .i64 0, .slice none 0 0]) ?_ 0 _ rfl; exact Kq_ BK743)) : gb744 ≠ gb743)); have HXHR742_744 := Aside0.mk (Kseen_ (by obtain ⟨W_, h1_, h2_, h3_⟩ := HXHR742_743.out; exact Kd.C_below h1_ (by repeat (first | (with_reducible first | exact h2_ | apply below_alloc | apply pw_below_drewN | apply below_drew1 | refine below_set ?_ h3_) | exact h2_))) hb hg); replace HO729 := Aside0.mk (Kd.R_below (by (with_reducible repeat (first | apply Kd.R_alloc | apply Kd.R_drewN | apply Kd.R_drew)); exact (Kd.R_mono (Kd.R_far (p := ⟨gb743, 5, none⟩) (Kd.R_far (p := ⟨gb743, 4, none⟩) (Kd.R_far (p := ⟨gb743, 3, none⟩) (Kd.R_far (p := ⟨gb743, 2, none⟩) (Kd.R_far (p := ⟨gb743, 1, none⟩) (Kd.R_far (p := ⟨gb743, 0, none⟩) (Kd.R_types HO729.out BK743.out (by decide)) (fun _ hk => hk.2) (.int .u64 t722)) (fun _ hk => hk.2) (.int .u64 t723)) (fun _ hk => hk.2) (.int .u64 t724)) (fun _ hk => hk.2) (.int .u64 t725)) (fun _ hk => hk.2) (.int .i64 t726)) (fun _ hk => hk.2) (.slice Ao33 y739.length co33)) (fun _ h_ => h_.1))) hb); replace HO733 := Aside0.mk (Kd.R_below (by (with_reducible repeat (first | apply Kd.R_alloc | apply Kd.R_drewN | apply Kd.R_drew)); exact (Kd.R_mono (Kd.R_far (p := ⟨gb743, 5, none⟩) (Kd.R_far (p := ⟨gb743, 4, none⟩) (Kd.R_far (p := ⟨gb743, 3, none⟩) (Kd.R_far (p := ⟨gb743, 2, none⟩) (Kd.R_far (p := ⟨gb743, 1, none⟩) (Kd.R_far (p := ⟨gb743, 0, none⟩) (Kd.R_types HO733.out BK743.out (by decide)) (fun _ hk => hk.2) (.int .u64 t722)) (fun _ hk => hk.2) (.int .u64 t723)) (fun _ hk => hk.2) (.int .u64 t724)) (fun _ hk => hk.2) (.int .u64 t725)) (fun _ hk => hk.2) (.int .i64 t726)) (fun _ hk => hk.2) (.slice Ao33 y739.length co33)) (fun _ h_ => h_.1))) hb); replace BK720 := Kf_ BK720 NB720_743 hb; replace BK730 := Kf_ BK730 NB730_743 hb; replace BK734 := Kf_ BK734 NB734_743 hb; replace HR742 := Aside0.mk (Kd.C_below (by obtain ⟨W_, h1_, h2_, h3_⟩ := HXHR742_743.out; exact Kd.C_below h1_ (by repeat (first | (with_reducible first | exact h2_ | apply below_alloc | apply pw_below_drewN | apply below_drew1 | refine below_set ?_ h3_) | exact h2_))) hb); replace BK743 := Aside0.mk (blk_below (g := gb743) (o := .cells #[.int .u64 t722, .int .u64 t723, .int .u64 t724, .int .u64 t725, .int .i64 t726, .slice Ao33 y739.length co33] 43 (0, 0)) (by refine Kv_ ?_; refine blk_put (cs := #[.int .u64 t722, .int .u64 t723, .int .u64 t724, .int .u64 t725, .int .i64 t726, .slice none 0 0]) ?_ 5 _ rfl; refine Kv_ ?_; refine blk_put (cs := #[.int .u64 t722, .int .u64 t723, .int .u64 t724, .int .u64 t725, .int .i64 0, .slice none 0 0]) ?_ 4 _ rfl; refine Kv_ ?_; refine blk_put (cs := #[.int .u64 t722, .int .u64 t723, .int .u64 t724, .int .u64 0, .int .i64 0, .slice none 0 0]) ?_ 3 _ rfl; refine Kv_ ?_; refine blk_put (cs := #[.int .u64 t722, .int .u64 t723, .int .u64 0, .int .u64 0, .int .i64 0, .slice none 0 0]) ?_ 2 _ rfl; refine Kv_ ?_; refine blk_put (cs := #[.int .u64 t722, .int .u64 0, .int .u64 0, .int .u64 0, .int .i64 0, .slice none 0 0]) ?_ 1 _ rfl; refine Kv_ ?_; refine blk_put (cs := #[.int .u64 0, .int .u64 0, .int .u64 0, .int .u64 0, .int .i64 0, .slice none 0 0]) ?_ 0 _ rfl; exact Kq_ BK743) hb); replace HB := Kt_ HB GE743 hb; clear hb hbox hg; have hnb71 := NB744_720.out; have hnc71 := NB720_744.out; have hnb72 := NB744_730.out; have hnc72 := NB730_744.out; have hnb73 := NB744_734.out; have hnc73 := NB734_744.out; have hnb74 := NB744_743.out; have hnc74 := NB743_744.out; obtain ⟨hcz75_0, hcz75_1, hcz75_2, hcz75_3, hcz75_4, hcz75_5, hfz75_0, hfz75_1, hfz75_2, hfz75_3, hfz75_4, hfz75_5⟩ := Ke6_ BK744.out; obtain ⟨hcz76_0, hcz76_1, hcz76_2, hcz76_3, hcz76_4, hcz76_5, hfz76_0, hfz76_1, hfz76_2, hfz76_3, hfz76_4, hfz76_5⟩ := Ke6_ BK730.out; have hnb77 := NB743_720.out; have hnc77 := NB720_743.out; have hnb78 := NB743_734.out; have hnc78 := NB734_743.out; obtain ⟨hcz79_0, hcz79_1, hcz79_2, hcz79_3, hcz79_4, hcz79_5, hfz79_0, hfz79_1, hfz79_2, hfz79_3, hfz79_4, hfz79_5⟩ := Ke6_ BK743.out) | (go_at_call 24; (with_reducible refine (item_Same.calls k t722 t723 t724 t725 t726 _ _ t727 t722 t723 t724 t725 t726 _ _ y739 false _ ?side1 ?side2 ?side3 ?side4 A20.out).mono ?_); (case side1 => refine (Kd.R_reads' (e := 23) (base := w.heap.size) (ok := fun k_ => some k_ ≠ (.slice (some ⟨go13, 0, none⟩) y731.length co40 : Value).ownBlock) (n := t727.length) (c := co33) ?_).2.2; exact (by (with_reducible repeat (first | apply Kd.R_alloc | apply Kd.R_drewN | apply Kd.R_drew)); exact (Kd.R_mono (Kd.R_far (p := ⟨gb744, 5, none⟩) (Kd.R_far (p := ⟨gb744, 4, none⟩) (Kd.R_far (p := ⟨gb744, 3, none⟩) (Kd.R_far (p := ⟨gb744, 2, none⟩) (Kd.R_far (p := ⟨gb744, 1, none⟩) (Kd.R_far (p := ⟨gb744, 0, none⟩) (Kd.R_types HO729.out BK744.out (by decide)) (fun _ hk => hk.2) (.int .u64 0)) (fun _ hk => hk.2) (.int .u64 0)) (fun _ hk => hk.2) (.int .u64 0)) (fun _ hk => hk.2) (.int .u64 0)) (fun _ hk => hk.2) (.int .i64 0)) (fun _ hk => hk.2) (.slice Ao33 t727.length co33)) (fun _ h_ => h_.1)))); (case side2 => exact (Kd.R_reads' HO729.out).2.1); (case side3 => repeat (first | exact (by obtain ⟨W_, h1_, h2_, h3_⟩ := HXHR742_744.out; exact Kd.C_below h1_ (by repeat (first | (with_reducible first | exact h2_ | apply below_alloc | apply pw_below_drewN | apply below_drew1 | refine below_set ?_ h3_) | exact h2_))) | (with_reducible refine Kd.C_alloc ?_ _) | (with_reducible refine Kd.C_drewN ?_ _) | (with_reducible refine Kd.C_drew ?_))); (case side4 => exact HC742.out); rintro e w80 ⟨rfl, hb⟩; replace HO729 := Aside0.mk (Kd.R_below (by (with_reducible repeat (first | apply Kd.R_alloc | apply Kd.R_drewN | apply Kd.R_drew)); exact (Kd.R_mono (Kd.R_far (p := ⟨gb744, 5, none⟩) (Kd.R_far (p := ⟨gb744, 4, none⟩) (Kd.R_far (p := ⟨gb744, 3, none⟩) (Kd.R_far (p := ⟨gb744, 2, none⟩) (Kd.R_far (p := ⟨gb744, 1, none⟩) (Kd.R_far (p := ⟨gb744, 0, none⟩) (Kd.R_types HO729.out BK744.out (by decide)) (fun _ hk => hk.2) (.int .u64 0)) (fun _ hk => hk.2) (.int .u64 0)) (fun _ hk => hk.2) (.int .u64 0)) (fun _ hk => hk.2) (.int .u64 0)) (fun _ hk => hk.2) (.int .i64 0)) (fun _ hk => hk.2) (.slice Ao33 t727.length co33)) (fun _ h_ => h_.1))) hb); replace HO733 := Aside0.mk (Kd.R_below (by (with_reducible repeat (first | apply Kd.R_alloc | apply Kd.R_drewN | apply Kd.R_drew)); exact (Kd.R_mono (Kd.R_far (p := ⟨gb744, 5, none⟩) (Kd.R_far (p := ⟨gb744, 4, none⟩) (Kd.R_far (p := ⟨gb744, 3, none⟩) (Kd.R_far (p := ⟨gb744, 2, none⟩) (Kd.R_far (p := ⟨gb744, 1, none⟩) (Kd.R_far (p := ⟨gb744, 0, none⟩) (Kd.R_types HO733.out BK744.out (by decide)) (fun _ hk => hk.2) (.int .u64 0)) (fun _ hk => hk.2) (.int .u64 0)) (fun _ hk => hk.2) (.int .u64 0)) (fun _ hk => hk.2) (.int .u64 0)) (fun _ hk => hk.2) (.int .i64 0)) (fun _ hk => hk.2) (.slice Ao33 t727.length co33)) (fun _ h_ => h_.1))) hb); replace BK720 := Kf_ BK720 NB720_744 hb; replace BK730 := Kf_ BK730 NB730_744 hb; replace BK734 := Kf_ BK734 NB734_744 hb; replace HR742 := Aside0.mk (Kd.C_below (by obtain ⟨W_, h1_, h2_, h3_⟩ := HXHR742_744.out; exact Kd.C_below h1_ (by repeat (first | (with_reducible first | exact h2_ | apply below_alloc | apply pw_below_drewN | apply below_drew1 | refine below_set ?_ h3_) | exact h2_))) hb); replace BK743 := Kf_ BK743 NB743_744 hb; replace BK744 := Aside0.mk (blk_below (g := gb744) (o := .cells #[.int .u64 0, .int .u64 0, .int .u64 0, .int .u64 0, .int .i64 0, .slice Ao33 t727.length co33] 43 (0, 0)) (by refine Kv_ ?_; refine blk_put (cs := #[.int .u64 0, .int .u64 0, .int .u64 0, .int .u64 0, .int .i64 0, .slice none 0 0]) ?_ 5 _ rfl; refine Kv_ ?_; refine blk_put (cs := #[.int .u64 0, .int .u64 0, .int .u64 0, .int .u64 0, .int .i64 0, .slice none 0 0]) ?_ 4 _ rfl; refine Kv_ ?_; refine blk_put (cs := #[.int .u64 0, .int .u64 0, .int .u64 0, .int .u64 0, .int .i64 0, .slice none 0 0]) ?_ 3 _ rfl; refine Kv_ ?_; refine blk_put (cs := #[.int .u64 0, .int .u64 0, .int .u64 0, .int .u64 0, .int .i64 0, .slice none 0 0]) ?_ 2 _ rfl; refine Kv_ ?_; refine blk_put (cs := #[.int .u64 0, .int .u64 0, .int .u64 0, .int .u64 0, .int .i64 0, .slice none 0 0]) ?_ 1 _ rfl; refine Kv_ ?_; refine blk_put (cs := #[.int .u64 0, .int .u64 0, .int .u64 0, .int .u64 0, .int .i64 0, .slice none 0 0]) ?_ 0 _ rfl; exact Kq_ BK744) hb); replace HB := Kt_ HB GE744 hb; (try clear hb); (try clear hb2); (try clear hk); (try clear hi); obtain ⟨hcz81_0, hcz81_1, hcz81_2, hcz81_3, hcz81_4, hcz81_5, hfz81_0, hfz81_1, hfz81_2, hfz81_3, hfz81_4, hfz81_5⟩ := Ke6_ BK730.out; obtain ⟨hcz82_0, hcz82_1, hcz82_2, hcz82_3, hcz82_4, hcz82_5, hfz82_0, hfz82_1, hfz82_2, hfz82_3, hfz82_4, hfz82_5⟩ := Ke6_ BK744.out) | (go_at_call 24; (with_reducible refine (item_Same.calls k t722 t723 t724 t725 t726 _ _ t727 0 0 0 0 0 _ _ t727 false _ ?side1 ?side2 ?side3 ?side4 A22.out).mono ?_); (case side1 => repeat (first | exact (Kd.R_reads' HO729.out).2.2 | (with_reducible refine Kd.C_alloc ?_ _) | (with_reducible refine Kd.C_drewN ?_ _) | (with_reducible refine Kd.C_drew ?_))); (case side2 => exact (Kd.R_reads' HO729.out).2.1); (case side3 => repeat (first | exact (Kd.R_reads' HO729.out).2.2 | (with_reducible refine Kd.C_alloc ?_ _) | (with_reducible refine Kd.C_drewN ?_ _) | (with_reducible refine Kd.C_drew ?_))); (case side4 => exact (Kd.R_reads' HO729.out).2.1); rintro e w83 ⟨rfl, hb⟩; replace HO729 := Aside0.mk (Kd.R_below (Ku_ HO729) hb); replace HO733 := Aside0.mk (Kd.R_below (Ku_ HO733) hb); replace BK720 := Kb_ BK720 hb; replace BK730 := Kb_ BK730 hb; replace BK734 := Kb_ BK734 hb; replace HR742 := Aside0.mk (Kd.C_below (by repeat (first | (with_reducible exact HR742.out) | (with_reducible refine Kd.C_alloc ?_ _) | (with_reducible refine Kd.C_drewN ?_ _) | (with_reducible refine Kd.C_drew ?_) | exact HR742.out)) hb); replace BK743 := Kb_ BK743 hb; replace BK744 := Kb_ BK744 hb; replace HB := Ks_ HB hb; (try clear hb); (try clear hb2); (try clear hk); (try clear hi)) | (go_at_call 24; (refine (item_Same.calls k 0 0 0 0 0 _ _ ([] : List (S23)) 0 0 0 0 0 _ _ ([] : List (S23)) true _ ?side1 ?side2 ?side3 ?side4 A24.out).mono ?_); (case side1 => exact Kd.C_nil _ _); (case side2 => exact Nat.le_refl _); (case side3 => exact Kd.C_nil _ _); (case side4 => exact Nat.le_refl _); rintro e w84 ⟨rfl, hb⟩; replace HO729 := Aside0.mk (Kd.R_below (Ku_ HO729) hb); replace HO733 := Aside0.mk (Kd.R_below (Ku_ HO733) hb); replace BK720 := Kb_ BK720 hb; replace BK730 := Kb_ BK730 hb; replace BK734 := Kb_ BK734 hb; replace HR742 := Aside0.mk (Kd.C_below (by repeat (first | (with_reducible exact HR742.out) | (with_reducible refine Kd.C_alloc ?_ _) | (with_reducible refine Kd.C_drewN ?_ _) | (with_reducible refine Kd.C_drew ?_) | exact HR742.out)) hb); replace BK743 := Kb_ BK743 hb; replace BK744 := Kb_ BK744 hb; replace HB := Ks_ HB hb; (try clear hb); (try clear hb2); (try clear hk); (try clear hi)))
 go_ret
 exact ⟨by first | rfl | (simp [errW_none, errW_some] <;> rfl) | (simp only [← hji9, ← hji15]; first | rfl | (simp [errW_none, errW_some] <;> rfl)) | (simp [*, errW_none, errW_some] <;> rfl), by repeat (first | (with_reducible first | exact HB.out | apply below_alloc | apply pw_below_drewN | apply below_drew1 | refine below_set ?_ GE720.out | refine below_set ?_ GE730.out | refine below_set ?_ GE734.out | refine below_set ?_ GE743.out | refine below_set ?_ GE744.out) | exact HB.out)⟩
end Go.Proofs.Ytoogchgoiciggaa.Q
