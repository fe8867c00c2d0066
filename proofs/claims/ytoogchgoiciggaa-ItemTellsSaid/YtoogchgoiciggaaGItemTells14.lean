import Derived.Test.YtoogchgoiciggaaQx0
import Derived.Test.YtoogchgoiciggaaGItemTells0
import Derived.Test.YtoogchgoiciggaaGItemTells1
import Derived.Test.YtoogchgoiciggaaGItemTells8
import Derived.Test.YtoogchgoiciggaaGItemTells3
import Derived.Test.YtoogchgoiciggaaGItemTells12
import Derived.Test.YtoogchgoiciggaaGItemTells4
import Derived.Test.YtoogchgoiciggaaGItemTells5
import Derived.Test.YtoogchgoiciggaaWBMore
namespace Go.Proofs.Ytoogchgoiciggaa.Q
open Go.RowKit Go.Proofs.YtoogchgoiciggaaW.PrintWords Go.Proofs.YtoogchgoiciggaaW.PrintLast Go.Proofs.YtoogchgoiciggaaW.PrintMore
attribute [local go_sem] max2_int min2_int max_two min_two max_three min_three max_four min_four   -- for this text's walks alone
set_option linter.unusedVariables false
set_option linter.unusedSimpArgs false
/-! ### tenementlaw08_ItemTells: function 3 -/
def tenementlaw08_ItemTells.f (k : Nat) (a0_0 : ByteArray) (a0_1 : ByteArray) (a0_2 : ByteArray) (a0_3 : Bool) (a0_4 : Bool) (a0_5 : Int) (a1_0 : Int) (a1_1 : Int) (a1_2 : Int) (a1_3 : Int) (a1_4 : Int) (a1_5 : Bool) (l1_6 : List (S25)) (a1_7 : Bool) (a2_0 : Int) (a2_1 : Int) (a2_2 : Int) (a2_3 : Int) (a2_4 : Int) (a2_5 : Bool) (l2_6 : List (S25)) (a2_7 : Bool) : Option (Bool) := (tenementlaw08_examples.f k).bind fun t361 => (if t361 = true then ((tenementlaw08_Put_write.f a0_0 a0_1 a0_2 a0_3 a0_4 a0_5).bind fun bt362 => ((tenementlaw08_refWrites.f k (([(⟨bt362.1, bt362.2.1, bt362.2.2.1, bt362.2.2.2⟩ : S23)] : List (S23)))).bind fun t370 => (if 0 < (t370.length : Int) then ((tenementlaw08_Deal_deal.f k a1_0 a1_1 a1_2 a1_3 a1_4 a1_5 l1_6 a1_7).bind fun bt375 => ((tenementlaw08_Deal_deal.f k a2_0 a2_1 a2_2 a2_3 a2_4 a2_5 l2_6 a2_7).bind fun bt384 => ((item_Bytes.f k bt375.1 bt375.2.1 bt375.2.2.1 bt375.2.2.2.1 bt375.2.2.2.2.1 bt375.2.2.2.2.2).bind fun bt393 => ((tenementlaw08_refTxn.f k bt375.1 bt375.2.1 bt375.2.2.1 bt375.2.2.2.1 bt375.2.2.2.2.1 bt375.2.2.2.2.2).bind fun bt395 => ((tenementref08_Bytes.f k bt395.1 bt395.2.1 bt395.2.2.1 bt395.2.2.2.1 bt395.2.2.2.2.1 bt395.2.2.2.2.2).bind fun bt403 => ((item_Right.f bt362.1 bt362.2.1 bt362.2.2.1 bt362.2.2.2).bind fun t405 => ((tenementref08_Right.f ((rd_T38 t370 0).f0) ((rd_T38 t370 0).f1) ((rd_T38 t370 0).f2) ((rd_T38 t370 0).f3)).bind fun t406 => (if t405 = t406 then ((item_Size.f bt362.1 bt362.2.1 bt362.2.2.1 bt362.2.2.2).bind fun t407 => ((tenementref08_Size.f ((rd_T38 t370 0).f0) ((rd_T38 t370 0).f1) ((rd_T38 t370 0).f2) ((rd_T38 t370 0).f3)).bind fun t408 => (if t407 = t408 then ((item_Whole.f bt375.1 bt375.2.1 bt375.2.2.1 bt375.2.2.2.1 bt375.2.2.2.2.1 bt375.2.2.2.2.2).bind fun t409 => ((tenementlaw08_refTxn.f k bt375.1 bt375.2.1 bt375.2.2.1 bt375.2.2.2.1 bt375.2.2.2.2.1 bt375.2.2.2.2.2).bind fun bt410 => ((tenementref08_Whole.f k bt410.1 bt410.2.1 bt410.2.2.1 bt410.2.2.2.1 bt410.2.2.2.2.1 bt410.2.2.2.2.2).bind fun t418 => (if t409 = t418 then (if bt393.1.toList = bt403.1.toList then (if bt393.2 = bt403.2 then ((item_Same.f k bt375.1 bt375.2.1 bt375.2.2.1 bt375.2.2.2.1 bt375.2.2.2.2.1 bt375.2.2.2.2.2 bt384.1 bt384.2.1 bt384.2.2.1 bt384.2.2.2.1 bt384.2.2.2.2.1 bt384.2.2.2.2.2).bind fun t419 => ((tenementlaw08_refTxn.f k bt375.1 bt375.2.1 bt375.2.2.1 bt375.2.2.2.1 bt375.2.2.2.2.1 bt375.2.2.2.2.2).bind fun bt420 => ((tenementlaw08_refTxn.f k bt384.1 bt384.2.1 bt384.2.2.1 bt384.2.2.2.1 bt384.2.2.2.2.1 bt384.2.2.2.2.2).bind fun bt428 => ((tenementref08_Same.f k bt420.1 bt420.2.1 bt420.2.2.1 bt420.2.2.2.1 bt420.2.2.2.2.1 bt420.2.2.2.2.2 bt428.1 bt428.2.1 bt428.2.2.1 bt428.2.2.2.1 bt428.2.2.2.2.1 bt428.2.2.2.2.2).bind fun t436 => (if t419 = t436 then (some true) else (none)))))) else (none)) else (none)) else (none))))) else (none)))) else (none))))))))) else (none)))) else (none))
theorem tenementlaw08_ItemTells.mono : ∀ a0 a1 a2 a3 a4 a5 a6 a7 a8 a9 a10 a11 a12 a13 a14 a15 a16 a17 a18 a19 a20 a21 k, LeO (tenementlaw08_ItemTells.f k a0 a1 a2 a3 a4 a5 a6 a7 a8 a9 a10 a11 a12 a13 a14 a15 a16 a17 a18 a19 a20 a21) (tenementlaw08_ItemTells.f (k + 1) a0 a1 a2 a3 a4 a5 a6 a7 a8 a9 a10 a11 a12 a13 a14 a15 a16 a17 a18 a19 a20 a21) := by
  intro a0 a1 a2 a3 a4 a5 a6 a7 a8 a9 a10 a11 a12 a13 a14 a15 a16 a17 a18 a19 a20 a21 k
  unfold tenementlaw08_ItemTells.f
  repeat' first
      | (with_reducible exact item_Bytes.mono _ _ _ _ _ _ _)
      | (with_reducible exact item_Same.mono _ _ _ _ _ _ _ _ _ _ _ _ _)
      | (with_reducible exact tenementlaw08_Deal_deal.mono _ _ _ _ _ _ _ _ _)
      | (with_reducible exact tenementlaw08_examples.mono _)
      | (with_reducible exact tenementlaw08_refTxn.mono _ _ _ _ _ _ _)
      | (with_reducible exact tenementlaw08_refWrites.mono _ _)
      | (with_reducible exact tenementref08_Bytes.mono _ _ _ _ _ _ _)
      | (with_reducible exact tenementref08_Same.mono _ _ _ _ _ _ _ _ _ _ _ _ _)
      | (with_reducible exact tenementref08_Whole.mono _ _ _ _ _ _ _)
      | (with_reducible exact LeO.refl _)
      | (with_reducible exact LeO.none _)
      | (with_reducible refine LeO.ite ?_ ?_)
      | (with_reducible refine LeO.bind ?_ (fun _ => ?_))
      | exact item_Bytes.mono _ _ _ _ _ _ _
      | exact item_Same.mono _ _ _ _ _ _ _ _ _ _ _ _ _
      | exact tenementlaw08_Deal_deal.mono _ _ _ _ _ _ _ _ _
      | exact tenementlaw08_examples.mono _
      | exact tenementlaw08_refTxn.mono _ _ _ _ _ _ _
      | exact tenementlaw08_refWrites.mono _ _
      | exact tenementref08_Bytes.mono _ _ _ _ _ _ _
      | exact tenementref08_Same.mono _ _ _ _ _ _ _ _ _ _ _ _ _
      | exact tenementref08_Whole.mono _ _ _ _ _ _ _
      | exact LeO.none _
      | refine LeO.ite ?_ ?_
      | refine LeO.bind ?_ (fun _ => ?_)
def tenementlaw08_ItemTells.T10 : Bool × List (List Nat × List Nat) := (true, [([], []), ([0], [0]), ([1], [1]), ([2, 1, 1], [1, 2]), ([1], [1]), ([4, 3, 1], [1, 4]), ([3, 5, 1], [1, 3, 5]), ([1, 6], [1, 6]), ([7, 5], [7]), ([8], [8]), ([9, 8, 8], [8, 9]), ([8], [8]), ([11, 10, 8], [8, 11]), ([10, 12, 8], [8, 10, 12]), ([8, 13], [8, 13]), ([14, 12], [14]), ([15], [15]), ([16, 15, 15], [15, 16]), ([15], [15]), ([18, 17, 15], [15, 18]), ([19, 19, 15], [15, 19]), ([17, 20, 15], [15, 17, 20]), ([15, 21], [15, 21]), ([22, 20], [22]), ([23], [23]), ([23], [23]), ([24, 25, 23], [23, 24, 25]), ([23, 26], [23, 26]), ([27, 23], [27]), ([28], [28]), ([28], [28]), ([29, 30, 28], [28, 29, 30]), ([28, 31], [28, 31]), ([32, 28], [32]), ([33], [33]), ([33], [33]), ([34, 35, 33, 33], [33, 34, 35]), ([33], [33]), ([37, 36, 33], [33, 37]), ([33], [33]), ([39, 38, 33], [33, 39]), ([38, 40, 40, 33], [33, 38, 40]), ([36, 41, 33], [33, 36, 41]), ([33, 42], [33, 42]), ([43, 41, 0, 1, 2, 3, 4, 5, 6, 7, 8, 9, 10, 11, 12, 13, 14, 15, 16, 17, 18, 19, 20, 21, 22, 23, 24, 25, 26, 27, 28, 29, 30, 31, 32, 33, 34, 35, 36, 37, 38, 39, 40, 41, 42, 43], [43])])
def tenementlaw08_ItemTells.B10 : List Nat := [0, 1, 3, 7, 3, 31, 63, 127, 255, 511, 1023, 511, 4095, 8191, 16383, 32767, 65535, 131071, 65535, 524287, 1048575, 2097151, 4194303, 8388607, 16777215, 16777215, 67108863, 134217727, 268435455, 536870911, 536870911, 2147483647, 4294967295, 8589934591, 17179869183, 17179869183, 68719476735, 17179869183, 274877906943, 17179869183, 1099511627775, 2199023255551, 4398046511103, 8796093022207, 17592186044415]
theorem tenementlaw08_ItemTells.tab10 : rtab .any (opsOf Try.f3 10) = tenementlaw08_ItemTells.T10 := by kernel_rfl
theorem tenementlaw08_ItemTells.bits10 : waitsOk tenementlaw08_ItemTells.T10.2 tenementlaw08_ItemTells.B10 = true := by kernel_rfl
set_option maxHeartbeats 8000000 in
set_option maxRecDepth 100000 in
theorem tenementlaw08_ItemTells.calls (k : Nat) (a0_0 : ByteArray) (a0_1 : ByteArray) (a0_2 : ByteArray) (a0_3 : Bool) (a0_4 : Bool) (a0_5 : Int) (a1_0 : Int) (a1_1 : Int) (a1_2 : Int) (a1_3 : Int) (a1_4 : Int) (a1_5 : Bool) (A1_6 : Option Addr) (c1_6 : Nat) (l1_6 : List (S25)) (a1_7 : Bool) (a2_0 : Int) (a2_1 : Int) (a2_2 : Int) (a2_3 : Int) (a2_4 : Int) (a2_5 : Bool) (A2_6 : Option Addr) (c2_6 : Nat) (l2_6 : List (S25)) (a2_7 : Bool) (r : Bool) (w : World) (hr1_6 : Kd.C k25 w A1_6 l1_6.length l1_6) (hc1_6 : l1_6.length ≤ c1_6) (hr2_6 : Kd.C k25 w A2_6 l2_6.length l2_6) (hc2_6 : l2_6.length ≤ c2_6) (h : tenementlaw08_ItemTells.f k a0_0 a0_1 a0_2 a0_3 a0_4 a0_5 a1_0 a1_1 a1_2 a1_3 a1_4 a1_5 l1_6 a1_7 a2_0 a2_1 a2_2 a2_3 a2_4 a2_5 l2_6 a2_7 = some r) :
    Calls Try.prog 3 #[.agg #[.string a0_0, .string a0_1, .string a0_2, .bool a0_3, .bool a0_4, .int .u8 a0_5], .agg #[.int .u64 a1_0, .int .u64 a1_1, .int .u64 a1_2, .int .u64 a1_3, .int .i64 a1_4, .bool a1_5, .slice A1_6 l1_6.length c1_6, .bool a1_7], .agg #[.int .u64 a2_0, .int .u64 a2_1, .int .u64 a2_2, .int .u64 a2_3, .int .i64 a2_4, .bool a2_5, .slice A2_6 l2_6.length c2_6, .bool a2_7]] w fun e w' => e = .returned (.bool r) ∧ Below w.heap.size w w' := by
  have hu25 := Try.underlying25
  have hu35 := Try.underlying35
  have hu23 := Try.underlying23
  have hu38 := Try.underlying38
  have hu43 := Try.underlying43
  have HR1_6 := Aside0.mk hr1_6
  have HC1_6 := Aside0.mk hc1_6
  clear hr1_6 hc1_6
  have HR2_6 := Aside0.mk hr2_6
  have HC2_6 := Aside0.mk hc2_6
  clear hr2_6 hc2_6
  have HB := Aside0.mk (Below.refl w.heap.size w)
  have H : ((tenementlaw08_examples.f k).bind fun t361 => (if t361 = true then ((tenementlaw08_Put_write.f a0_0 a0_1 a0_2 a0_3 a0_4 a0_5).bind fun bt362 => ((tenementlaw08_refWrites.f k (([(⟨bt362.1, bt362.2.1, bt362.2.2.1, bt362.2.2.2⟩ : S23)] : List (S23)))).bind fun t370 => (if 0 < (t370.length : Int) then ((tenementlaw08_Deal_deal.f k a1_0 a1_1 a1_2 a1_3 a1_4 a1_5 l1_6 a1_7).bind fun bt375 => ((tenementlaw08_Deal_deal.f k a2_0 a2_1 a2_2 a2_3 a2_4 a2_5 l2_6 a2_7).bind fun bt384 => ((item_Bytes.f k bt375.1 bt375.2.1 bt375.2.2.1 bt375.2.2.2.1 bt375.2.2.2.2.1 bt375.2.2.2.2.2).bind fun bt393 => ((tenementlaw08_refTxn.f k bt375.1 bt375.2.1 bt375.2.2.1 bt375.2.2.2.1 bt375.2.2.2.2.1 bt375.2.2.2.2.2).bind fun bt395 => ((tenementref08_Bytes.f k bt395.1 bt395.2.1 bt395.2.2.1 bt395.2.2.2.1 bt395.2.2.2.2.1 bt395.2.2.2.2.2).bind fun bt403 => ((item_Right.f bt362.1 bt362.2.1 bt362.2.2.1 bt362.2.2.2).bind fun t405 => ((tenementref08_Right.f ((rd_T38 t370 0).f0) ((rd_T38 t370 0).f1) ((rd_T38 t370 0).f2) ((rd_T38 t370 0).f3)).bind fun t406 => (if t405 = t406 then ((item_Size.f bt362.1 bt362.2.1 bt362.2.2.1 bt362.2.2.2).bind fun t407 => ((tenementref08_Size.f ((rd_T38 t370 0).f0) ((rd_T38 t370 0).f1) ((rd_T38 t370 0).f2) ((rd_T38 t370 0).f3)).bind fun t408 => (if t407 = t408 then ((item_Whole.f bt375.1 bt375.2.1 bt375.2.2.1 bt375.2.2.2.1 bt375.2.2.2.2.1 bt375.2.2.2.2.2).bind fun t409 => ((tenementlaw08_refTxn.f k bt375.1 bt375.2.1 bt375.2.2.1 bt375.2.2.2.1 bt375.2.2.2.2.1 bt375.2.2.2.2.2).bind fun bt410 => ((tenementref08_Whole.f k bt410.1 bt410.2.1 bt410.2.2.1 bt410.2.2.2.1 bt410.2.2.2.2.1 bt410.2.2.2.2.2).bind fun t418 => (if t409 = t418 then (if bt393.1.toList = bt403.1.toList then (if bt393.2 = bt403.2 then ((item_Same.f k bt375.1 bt375.2.1 bt375.2.2.1 bt375.2.2.2.1 bt375.2.2.2.2.1 bt375.2.2.2.2.2 bt384.1 bt384.2.1 bt384.2.2.1 bt384.2.2.2.1 bt384.2.2.2.2.1 bt384.2.2.2.2.2).bind fun t419 => ((tenementlaw08_refTxn.f k bt375.1 bt375.2.1 bt375.2.2.1 bt375.2.2.2.1 bt375.2.2.2.2.1 bt375.2.2.2.2.2).bind fun bt420 => ((tenementlaw08_refTxn.f k bt384.1 bt384.2.1 bt384.2.2.1 bt384.2.2.2.1 bt384.2.2.2.2.1 bt384.2.2.2.2.2).bind fun bt428 => ((tenementref08_Same.f k bt420.1 bt420.2.1 bt420.2.2.1 bt420.2.2.2.1 bt420.2.2.2.2.1 bt420.2.2.2.2.2 bt428.1 bt428.2.1 bt428.2.2.1 bt428.2.2.2.1 bt428.2.2.2.2.1 bt428.2.2.2.2.2).bind fun t436 => (if t419 = t436 then (some true) else (none)))))) else (none)) else (none)) else (none))))) else (none)))) else (none))))))))) else (none)))) else (none))) = some r := h
  clear h
  replace H := Option.bind_eq_some_iff.mp H
  obtain ⟨t361, A40, H⟩ := H
  replace H : (if t361 = true then ((tenementlaw08_Put_write.f a0_0 a0_1 a0_2 a0_3 a0_4 a0_5).bind fun bt362 => ((tenementlaw08_refWrites.f k (([(⟨bt362.1, bt362.2.1, bt362.2.2.1, bt362.2.2.2⟩ : S23)] : List (S23)))).bind fun t370 => (if 0 < (t370.length : Int) then ((tenementlaw08_Deal_deal.f k a1_0 a1_1 a1_2 a1_3 a1_4 a1_5 l1_6 a1_7).bind fun bt375 => ((tenementlaw08_Deal_deal.f k a2_0 a2_1 a2_2 a2_3 a2_4 a2_5 l2_6 a2_7).bind fun bt384 => ((item_Bytes.f k bt375.1 bt375.2.1 bt375.2.2.1 bt375.2.2.2.1 bt375.2.2.2.2.1 bt375.2.2.2.2.2).bind fun bt393 => ((tenementlaw08_refTxn.f k bt375.1 bt375.2.1 bt375.2.2.1 bt375.2.2.2.1 bt375.2.2.2.2.1 bt375.2.2.2.2.2).bind fun bt395 => ((tenementref08_Bytes.f k bt395.1 bt395.2.1 bt395.2.2.1 bt395.2.2.2.1 bt395.2.2.2.2.1 bt395.2.2.2.2.2).bind fun bt403 => ((item_Right.f bt362.1 bt362.2.1 bt362.2.2.1 bt362.2.2.2).bind fun t405 => ((tenementref08_Right.f ((rd_T38 t370 0).f0) ((rd_T38 t370 0).f1) ((rd_T38 t370 0).f2) ((rd_T38 t370 0).f3)).bind fun t406 => (if t405 = t406 then ((item_Size.f bt362.1 bt362.2.1 bt362.2.2.1 bt362.2.2.2).bind fun t407 => ((tenementref08_Size.f ((rd_T38 t370 0).f0) ((rd_T38 t370 0).f1) ((rd_T38 t370 0).f2) ((rd_T38 t370 0).f3)).bind fun t408 => (if t407 = t408 then ((item_Whole.f bt375.1 bt375.2.1 bt375.2.2.1 bt375.2.2.2.1 bt375.2.2.2.2.1 bt375.2.2.2.2.2).bind fun t409 => ((tenementlaw08_refTxn.f k bt375.1 bt375.2.1 bt375.2.2.1 bt375.2.2.2.1 bt375.2.2.2.2.1 bt375.2.2.2.2.2).bind fun bt410 => ((tenementref08_Whole.f k bt410.1 bt410.2.1 bt410.2.2.1 bt410.2.2.2.1 bt410.2.2.2.2.1 bt410.2.2.2.2.2).bind fun t418 => (if t409 = t418 then (if bt393.1.toList = bt403.1.toList then (if bt393.2 = bt403.2 then ((item_Same.f k bt375.1 bt375.2.1 bt375.2.2.1 bt375.2.2.2.1 bt375.2.2.2.2.1 bt375.2.2.2.2.2 bt384.1 bt384.2.1 bt384.2.2.1 bt384.2.2.2.1 bt384.2.2.2.2.1 bt384.2.2.2.2.2).bind fun t419 => ((tenementlaw08_refTxn.f k bt375.1 bt375.2.1 bt375.2.2.1 bt375.2.2.2.1 bt375.2.2.2.2.1 bt375.2.2.2.2.2).bind fun bt420 => ((tenementlaw08_refTxn.f k bt384.1 bt384.2.1 bt384.2.2.1 bt384.2.2.2.1 bt384.2.2.2.2.1 bt384.2.2.2.2.2).bind fun bt428 => ((tenementref08_Same.f k bt420.1 bt420.2.1 bt420.2.2.1 bt420.2.2.2.1 bt420.2.2.2.2.1 bt420.2.2.2.2.2 bt428.1 bt428.2.1 bt428.2.2.1 bt428.2.2.2.1 bt428.2.2.2.2.1 bt428.2.2.2.2.2).bind fun t436 => (if t419 = t436 then (some true) else (none)))))) else (none)) else (none)) else (none))))) else (none)))) else (none))))))))) else (none)))) else (none)) = some r := H
  have A4 := Aside0.mk A40
  clear A40
  by_cases c5 : t361 = true
  rotate_left
  · replace c5 := Bool.eq_false_iff.mpr c5
    subst c5
    have H1 : (none) = some r := by rw [if_neg (show ¬ (false = true) by decide)] at H; exact H
    clear H
    have H := H1
    clear H1
    exact absurd H (by simp)
  subst c5
  have H1 : ((tenementlaw08_Put_write.f a0_0 a0_1 a0_2 a0_3 a0_4 a0_5).bind fun bt362 => ((tenementlaw08_refWrites.f k (([(⟨bt362.1, bt362.2.1, bt362.2.2.1, bt362.2.2.2⟩ : S23)] : List (S23)))).bind fun t370 => (if 0 < (t370.length : Int) then ((tenementlaw08_Deal_deal.f k a1_0 a1_1 a1_2 a1_3 a1_4 a1_5 l1_6 a1_7).bind fun bt375 => ((tenementlaw08_Deal_deal.f k a2_0 a2_1 a2_2 a2_3 a2_4 a2_5 l2_6 a2_7).bind fun bt384 => ((item_Bytes.f k bt375.1 bt375.2.1 bt375.2.2.1 bt375.2.2.2.1 bt375.2.2.2.2.1 bt375.2.2.2.2.2).bind fun bt393 => ((tenementlaw08_refTxn.f k bt375.1 bt375.2.1 bt375.2.2.1 bt375.2.2.2.1 bt375.2.2.2.2.1 bt375.2.2.2.2.2).bind fun bt395 => ((tenementref08_Bytes.f k bt395.1 bt395.2.1 bt395.2.2.1 bt395.2.2.2.1 bt395.2.2.2.2.1 bt395.2.2.2.2.2).bind fun bt403 => ((item_Right.f bt362.1 bt362.2.1 bt362.2.2.1 bt362.2.2.2).bind fun t405 => ((tenementref08_Right.f ((rd_T38 t370 0).f0) ((rd_T38 t370 0).f1) ((rd_T38 t370 0).f2) ((rd_T38 t370 0).f3)).bind fun t406 => (if t405 = t406 then ((item_Size.f bt362.1 bt362.2.1 bt362.2.2.1 bt362.2.2.2).bind fun t407 => ((tenementref08_Size.f ((rd_T38 t370 0).f0) ((rd_T38 t370 0).f1) ((rd_T38 t370 0).f2) ((rd_T38 t370 0).f3)).bind fun t408 => (if t407 = t408 then ((item_Whole.f bt375.1 bt375.2.1 bt375.2.2.1 bt375.2.2.2.1 bt375.2.2.2.2.1 bt375.2.2.2.2.2).bind fun t409 => ((tenementlaw08_refTxn.f k bt375.1 bt375.2.1 bt375.2.2.1 bt375.2.2.2.1 bt375.2.2.2.2.1 bt375.2.2.2.2.2).bind fun bt410 => ((tenementref08_Whole.f k bt410.1 bt410.2.1 bt410.2.2.1 bt410.2.2.2.1 bt410.2.2.2.2.1 bt410.2.2.2.2.2).bind fun t418 => (if t409 = t418 then (if bt393.1.toList = bt403.1.toList then (if bt393.2 = bt403.2 then ((item_Same.f k bt375.1 bt375.2.1 bt375.2.2.1 bt375.2.2.2.1 bt375.2.2.2.2.1 bt375.2.2.2.2.2 bt384.1 bt384.2.1 bt384.2.2.1 bt384.2.2.2.1 bt384.2.2.2.2.1 bt384.2.2.2.2.2).bind fun t419 => ((tenementlaw08_refTxn.f k bt375.1 bt375.2.1 bt375.2.2.1 bt375.2.2.2.1 bt375.2.2.2.2.1 bt375.2.2.2.2.2).bind fun bt420 => ((tenementlaw08_refTxn.f k bt384.1 bt384.2.1 bt384.2.2.1 bt384.2.2.2.1 bt384.2.2.2.2.1 bt384.2.2.2.2.2).bind fun bt428 => ((tenementref08_Same.f k bt420.1 bt420.2.1 bt420.2.2.1 bt420.2.2.2.1 bt420.2.2.2.2.1 bt420.2.2.2.2.2 bt428.1 bt428.2.1 bt428.2.2.1 bt428.2.2.2.1 bt428.2.2.2.2.1 bt428.2.2.2.2.2).bind fun t436 => (if t419 = t436 then (some true) else (none)))))) else (none)) else (none)) else (none))))) else (none)))) else (none))))))))) else (none)))) = some r := by rw [if_pos rfl] at H; exact H
  clear H
  have H := H1
  clear H1
  replace H := Option.bind_eq_some_iff.mp H
  obtain ⟨⟨t362, t363, t364, t365⟩, A60, H⟩ := H
  replace H : ((tenementlaw08_refWrites.f k (([(⟨t362, t363, t364, t365⟩ : S23)] : List (S23)))).bind fun t370 => (if 0 < (t370.length : Int) then ((tenementlaw08_Deal_deal.f k a1_0 a1_1 a1_2 a1_3 a1_4 a1_5 l1_6 a1_7).bind fun bt375 => ((tenementlaw08_Deal_deal.f k a2_0 a2_1 a2_2 a2_3 a2_4 a2_5 l2_6 a2_7).bind fun bt384 => ((item_Bytes.f k bt375.1 bt375.2.1 bt375.2.2.1 bt375.2.2.2.1 bt375.2.2.2.2.1 bt375.2.2.2.2.2).bind fun bt393 => ((tenementlaw08_refTxn.f k bt375.1 bt375.2.1 bt375.2.2.1 bt375.2.2.2.1 bt375.2.2.2.2.1 bt375.2.2.2.2.2).bind fun bt395 => ((tenementref08_Bytes.f k bt395.1 bt395.2.1 bt395.2.2.1 bt395.2.2.2.1 bt395.2.2.2.2.1 bt395.2.2.2.2.2).bind fun bt403 => ((item_Right.f t362 t363 t364 t365).bind fun t405 => ((tenementref08_Right.f ((rd_T38 t370 0).f0) ((rd_T38 t370 0).f1) ((rd_T38 t370 0).f2) ((rd_T38 t370 0).f3)).bind fun t406 => (if t405 = t406 then ((item_Size.f t362 t363 t364 t365).bind fun t407 => ((tenementref08_Size.f ((rd_T38 t370 0).f0) ((rd_T38 t370 0).f1) ((rd_T38 t370 0).f2) ((rd_T38 t370 0).f3)).bind fun t408 => (if t407 = t408 then ((item_Whole.f bt375.1 bt375.2.1 bt375.2.2.1 bt375.2.2.2.1 bt375.2.2.2.2.1 bt375.2.2.2.2.2).bind fun t409 => ((tenementlaw08_refTxn.f k bt375.1 bt375.2.1 bt375.2.2.1 bt375.2.2.2.1 bt375.2.2.2.2.1 bt375.2.2.2.2.2).bind fun bt410 => ((tenementref08_Whole.f k bt410.1 bt410.2.1 bt410.2.2.1 bt410.2.2.2.1 bt410.2.2.2.2.1 bt410.2.2.2.2.2).bind fun t418 => (if t409 = t418 then (if bt393.1.toList = bt403.1.toList then (if bt393.2 = bt403.2 then ((item_Same.f k bt375.1 bt375.2.1 bt375.2.2.1 bt375.2.2.2.1 bt375.2.2.2.2.1 bt375.2.2.2.2.2 bt384.1 bt384.2.1 bt384.2.2.1 bt384.2.2.2.1 bt384.2.2.2.2.1 bt384.2.2.2.2.2).bind fun t419 => ((tenementlaw08_refTxn.f k bt375.1 bt375.2.1 bt375.2.2.1 bt375.2.2.2.1 bt375.2.2.2.2.1 bt375.2.2.2.2.2).bind fun bt420 => ((tenementlaw08_refTxn.f k bt384.1 bt384.2.1 bt384.2.2.1 bt384.2.2.2.1 bt384.2.2.2.2.1 bt384.2.2.2.2.2).bind fun bt428 => ((tenementref08_Same.f k bt420.1 bt420.2.1 bt420.2.2.1 bt420.2.2.2.1 bt420.2.2.2.2.1 bt420.2.2.2.2.2 bt428.1 bt428.2.1 bt428.2.2.1 bt428.2.2.2.1 bt428.2.2.2.2.1 bt428.2.2.2.2.2).bind fun t436 => (if t419 = t436 then (some true) else (none)))))) else (none)) else (none)) else (none))))) else (none)))) else (none))))))))) else (none))) = some r := H
  have A6 := Aside0.mk A60
  clear A60
  obtain ⟨y367, hy367⟩ : ∃ y_ : List (S23), y_ = (([(⟨t362, t363, t364, t365⟩ : S23)] : List (S23))) := ⟨_, rfl⟩
  replace H : ((tenementlaw08_refWrites.f k y367).bind fun t370 => (if 0 < (t370.length : Int) then ((tenementlaw08_Deal_deal.f k a1_0 a1_1 a1_2 a1_3 a1_4 a1_5 l1_6 a1_7).bind fun bt375 => ((tenementlaw08_Deal_deal.f k a2_0 a2_1 a2_2 a2_3 a2_4 a2_5 l2_6 a2_7).bind fun bt384 => ((item_Bytes.f k bt375.1 bt375.2.1 bt375.2.2.1 bt375.2.2.2.1 bt375.2.2.2.2.1 bt375.2.2.2.2.2).bind fun bt393 => ((tenementlaw08_refTxn.f k bt375.1 bt375.2.1 bt375.2.2.1 bt375.2.2.2.1 bt375.2.2.2.2.1 bt375.2.2.2.2.2).bind fun bt395 => ((tenementref08_Bytes.f k bt395.1 bt395.2.1 bt395.2.2.1 bt395.2.2.2.1 bt395.2.2.2.2.1 bt395.2.2.2.2.2).bind fun bt403 => ((item_Right.f t362 t363 t364 t365).bind fun t405 => ((tenementref08_Right.f ((rd_T38 t370 0).f0) ((rd_T38 t370 0).f1) ((rd_T38 t370 0).f2) ((rd_T38 t370 0).f3)).bind fun t406 => (if t405 = t406 then ((item_Size.f t362 t363 t364 t365).bind fun t407 => ((tenementref08_Size.f ((rd_T38 t370 0).f0) ((rd_T38 t370 0).f1) ((rd_T38 t370 0).f2) ((rd_T38 t370 0).f3)).bind fun t408 => (if t407 = t408 then ((item_Whole.f bt375.1 bt375.2.1 bt375.2.2.1 bt375.2.2.2.1 bt375.2.2.2.2.1 bt375.2.2.2.2.2).bind fun t409 => ((tenementlaw08_refTxn.f k bt375.1 bt375.2.1 bt375.2.2.1 bt375.2.2.2.1 bt375.2.2.2.2.1 bt375.2.2.2.2.2).bind fun bt410 => ((tenementref08_Whole.f k bt410.1 bt410.2.1 bt410.2.2.1 bt410.2.2.2.1 bt410.2.2.2.2.1 bt410.2.2.2.2.2).bind fun t418 => (if t409 = t418 then (if bt393.1.toList = bt403.1.toList then (if bt393.2 = bt403.2 then ((item_Same.f k bt375.1 bt375.2.1 bt375.2.2.1 bt375.2.2.2.1 bt375.2.2.2.2.1 bt375.2.2.2.2.2 bt384.1 bt384.2.1 bt384.2.2.1 bt384.2.2.2.1 bt384.2.2.2.2.1 bt384.2.2.2.2.2).bind fun t419 => ((tenementlaw08_refTxn.f k bt375.1 bt375.2.1 bt375.2.2.1 bt375.2.2.2.1 bt375.2.2.2.2.1 bt375.2.2.2.2.2).bind fun bt420 => ((tenementlaw08_refTxn.f k bt384.1 bt384.2.1 bt384.2.2.1 bt384.2.2.2.1 bt384.2.2.2.2.1 bt384.2.2.2.2.2).bind fun bt428 => ((tenementref08_Same.f k bt420.1 bt420.2.1 bt420.2.2.1 bt420.2.2.2.1 bt420.2.2.2.2.1 bt420.2.2.2.2.2 bt428.1 bt428.2.1 bt428.2.2.1 bt428.2.2.2.1 bt428.2.2.2.2.1 bt428.2.2.2.2.2).bind fun t436 => (if t419 = t436 then (some true) else (none)))))) else (none)) else (none)) else (none))))) else (none)))) else (none))))))))) else (none))) = some r := by first | (rw [hy367]; with_reducible exact H) | (have H2_ := (Option.bind_some _ _).symm.trans H; rw [hy367]; with_reducible exact H2_) | (have H2_ := (Option.bind_some _ _).symm.trans H; with_reducible exact H2_) | with_reducible exact H | (rw [hy367]; exact H) | exact H
  have Ny367 := Aside0.mk hy367
  clear hy367
  replace H := Option.bind_eq_some_iff.mp H
  obtain ⟨t370, A70, H⟩ := H
  replace H : (if 0 < (t370.length : Int) then ((tenementlaw08_Deal_deal.f k a1_0 a1_1 a1_2 a1_3 a1_4 a1_5 l1_6 a1_7).bind fun bt375 => ((tenementlaw08_Deal_deal.f k a2_0 a2_1 a2_2 a2_3 a2_4 a2_5 l2_6 a2_7).bind fun bt384 => ((item_Bytes.f k bt375.1 bt375.2.1 bt375.2.2.1 bt375.2.2.2.1 bt375.2.2.2.2.1 bt375.2.2.2.2.2).bind fun bt393 => ((tenementlaw08_refTxn.f k bt375.1 bt375.2.1 bt375.2.2.1 bt375.2.2.2.1 bt375.2.2.2.2.1 bt375.2.2.2.2.2).bind fun bt395 => ((tenementref08_Bytes.f k bt395.1 bt395.2.1 bt395.2.2.1 bt395.2.2.2.1 bt395.2.2.2.2.1 bt395.2.2.2.2.2).bind fun bt403 => ((item_Right.f t362 t363 t364 t365).bind fun t405 => ((tenementref08_Right.f ((rd_T38 t370 0).f0) ((rd_T38 t370 0).f1) ((rd_T38 t370 0).f2) ((rd_T38 t370 0).f3)).bind fun t406 => (if t405 = t406 then ((item_Size.f t362 t363 t364 t365).bind fun t407 => ((tenementref08_Size.f ((rd_T38 t370 0).f0) ((rd_T38 t370 0).f1) ((rd_T38 t370 0).f2) ((rd_T38 t370 0).f3)).bind fun t408 => (if t407 = t408 then ((item_Whole.f bt375.1 bt375.2.1 bt375.2.2.1 bt375.2.2.2.1 bt375.2.2.2.2.1 bt375.2.2.2.2.2).bind fun t409 => ((tenementlaw08_refTxn.f k bt375.1 bt375.2.1 bt375.2.2.1 bt375.2.2.2.1 bt375.2.2.2.2.1 bt375.2.2.2.2.2).bind fun bt410 => ((tenementref08_Whole.f k bt410.1 bt410.2.1 bt410.2.2.1 bt410.2.2.2.1 bt410.2.2.2.2.1 bt410.2.2.2.2.2).bind fun t418 => (if t409 = t418 then (if bt393.1.toList = bt403.1.toList then (if bt393.2 = bt403.2 then ((item_Same.f k bt375.1 bt375.2.1 bt375.2.2.1 bt375.2.2.2.1 bt375.2.2.2.2.1 bt375.2.2.2.2.2 bt384.1 bt384.2.1 bt384.2.2.1 bt384.2.2.2.1 bt384.2.2.2.2.1 bt384.2.2.2.2.2).bind fun t419 => ((tenementlaw08_refTxn.f k bt375.1 bt375.2.1 bt375.2.2.1 bt375.2.2.2.1 bt375.2.2.2.2.1 bt375.2.2.2.2.2).bind fun bt420 => ((tenementlaw08_refTxn.f k bt384.1 bt384.2.1 bt384.2.2.1 bt384.2.2.2.1 bt384.2.2.2.2.1 bt384.2.2.2.2.2).bind fun bt428 => ((tenementref08_Same.f k bt420.1 bt420.2.1 bt420.2.2.1 bt420.2.2.2.1 bt420.2.2.2.2.1 bt420.2.2.2.2.2 bt428.1 bt428.2.1 bt428.2.2.1 bt428.2.2.2.1 bt428.2.2.2.2.1 bt428.2.2.2.2.2).bind fun t436 => (if t419 = t436 then (some true) else (none)))))) else (none)) else (none)) else (none))))) else (none)))) else (none))))))))) else (none)) = some r := H
  have A7 := Aside0.mk A70
  clear A70
  by_cases c8 : 0 < (t370.length : Int)
  rotate_left
  · rw [if_neg c8] at H
    exact absurd H (by simp)
  rw [if_pos c8] at H
  have c8b0 : decide (0 < (t370.length : Int)) = true := decide_eq_true c8
  have c8b1 : decide (0 < t370.length) = true := decide_eq_true (by omega)
  clear c8
  replace H := Option.bind_eq_some_iff.mp H
  obtain ⟨⟨t375, t376, t377, t378, t379, t380⟩, A90, H⟩ := H
  replace H : ((tenementlaw08_Deal_deal.f k a2_0 a2_1 a2_2 a2_3 a2_4 a2_5 l2_6 a2_7).bind fun bt384 => ((item_Bytes.f k t375 t376 t377 t378 t379 t380).bind fun bt393 => ((tenementlaw08_refTxn.f k t375 t376 t377 t378 t379 t380).bind fun bt395 => ((tenementref08_Bytes.f k bt395.1 bt395.2.1 bt395.2.2.1 bt395.2.2.2.1 bt395.2.2.2.2.1 bt395.2.2.2.2.2).bind fun bt403 => ((item_Right.f t362 t363 t364 t365).bind fun t405 => ((tenementref08_Right.f ((rd_T38 t370 0).f0) ((rd_T38 t370 0).f1) ((rd_T38 t370 0).f2) ((rd_T38 t370 0).f3)).bind fun t406 => (if t405 = t406 then ((item_Size.f t362 t363 t364 t365).bind fun t407 => ((tenementref08_Size.f ((rd_T38 t370 0).f0) ((rd_T38 t370 0).f1) ((rd_T38 t370 0).f2) ((rd_T38 t370 0).f3)).bind fun t408 => (if t407 = t408 then ((item_Whole.f t375 t376 t377 t378 t379 t380).bind fun t409 => ((tenementlaw08_refTxn.f k t375 t376 t377 t378 t379 t380).bind fun bt410 => ((tenementref08_Whole.f k bt410.1 bt410.2.1 bt410.2.2.1 bt410.2.2.2.1 bt410.2.2.2.2.1 bt410.2.2.2.2.2).bind fun t418 => (if t409 = t418 then (if bt393.1.toList = bt403.1.toList then (if bt393.2 = bt403.2 then ((item_Same.f k t375 t376 t377 t378 t379 t380 bt384.1 bt384.2.1 bt384.2.2.1 bt384.2.2.2.1 bt384.2.2.2.2.1 bt384.2.2.2.2.2).bind fun t419 => ((tenementlaw08_refTxn.f k t375 t376 t377 t378 t379 t380).bind fun bt420 => ((tenementlaw08_refTxn.f k bt384.1 bt384.2.1 bt384.2.2.1 bt384.2.2.2.1 bt384.2.2.2.2.1 bt384.2.2.2.2.2).bind fun bt428 => ((tenementref08_Same.f k bt420.1 bt420.2.1 bt420.2.2.1 bt420.2.2.2.1 bt420.2.2.2.2.1 bt420.2.2.2.2.2 bt428.1 bt428.2.1 bt428.2.2.1 bt428.2.2.2.1 bt428.2.2.2.2.1 bt428.2.2.2.2.2).bind fun t436 => (if t419 = t436 then (some true) else (none)))))) else (none)) else (none)) else (none))))) else (none)))) else (none)))))))) = some r := H
  have A9 := Aside0.mk A90
  clear A90
  replace H := Option.bind_eq_some_iff.mp H
  obtain ⟨⟨t384, t385, t386, t387, t388, t389⟩, A100, H⟩ := H
  replace H : ((item_Bytes.f k t375 t376 t377 t378 t379 t380).bind fun bt393 => ((tenementlaw08_refTxn.f k t375 t376 t377 t378 t379 t380).bind fun bt395 => ((tenementref08_Bytes.f k bt395.1 bt395.2.1 bt395.2.2.1 bt395.2.2.2.1 bt395.2.2.2.2.1 bt395.2.2.2.2.2).bind fun bt403 => ((item_Right.f t362 t363 t364 t365).bind fun t405 => ((tenementref08_Right.f ((rd_T38 t370 0).f0) ((rd_T38 t370 0).f1) ((rd_T38 t370 0).f2) ((rd_T38 t370 0).f3)).bind fun t406 => (if t405 = t406 then ((item_Size.f t362 t363 t364 t365).bind fun t407 => ((tenementref08_Size.f ((rd_T38 t370 0).f0) ((rd_T38 t370 0).f1) ((rd_T38 t370 0).f2) ((rd_T38 t370 0).f3)).bind fun t408 => (if t407 = t408 then ((item_Whole.f t375 t376 t377 t378 t379 t380).bind fun t409 => ((tenementlaw08_refTxn.f k t375 t376 t377 t378 t379 t380).bind fun bt410 => ((tenementref08_Whole.f k bt410.1 bt410.2.1 bt410.2.2.1 bt410.2.2.2.1 bt410.2.2.2.2.1 bt410.2.2.2.2.2).bind fun t418 => (if t409 = t418 then (if bt393.1.toList = bt403.1.toList then (if bt393.2 = bt403.2 then ((item_Same.f k t375 t376 t377 t378 t379 t380 t384 t385 t386 t387 t388 t389).bind fun t419 => ((tenementlaw08_refTxn.f k t375 t376 t377 t378 t379 t380).bind fun bt420 => ((tenementlaw08_refTxn.f k t384 t385 t386 t387 t388 t389).bind fun bt428 => ((tenementref08_Same.f k bt420.1 bt420.2.1 bt420.2.2.1 bt420.2.2.2.1 bt420.2.2.2.2.1 bt420.2.2.2.2.2 bt428.1 bt428.2.1 bt428.2.2.1 bt428.2.2.2.1 bt428.2.2.2.2.1 bt428.2.2.2.2.2).bind fun t436 => (if t419 = t436 then (some true) else (none)))))) else (none)) else (none)) else (none))))) else (none)))) else (none))))))) = some r := H
  have A10 := Aside0.mk A100
  clear A100
  replace H := Option.bind_eq_some_iff.mp H
  obtain ⟨⟨t393, t394⟩, A110, H⟩ := H
  replace H : ((tenementlaw08_refTxn.f k t375 t376 t377 t378 t379 t380).bind fun bt395 => ((tenementref08_Bytes.f k bt395.1 bt395.2.1 bt395.2.2.1 bt395.2.2.2.1 bt395.2.2.2.2.1 bt395.2.2.2.2.2).bind fun bt403 => ((item_Right.f t362 t363 t364 t365).bind fun t405 => ((tenementref08_Right.f ((rd_T38 t370 0).f0) ((rd_T38 t370 0).f1) ((rd_T38 t370 0).f2) ((rd_T38 t370 0).f3)).bind fun t406 => (if t405 = t406 then ((item_Size.f t362 t363 t364 t365).bind fun t407 => ((tenementref08_Size.f ((rd_T38 t370 0).f0) ((rd_T38 t370 0).f1) ((rd_T38 t370 0).f2) ((rd_T38 t370 0).f3)).bind fun t408 => (if t407 = t408 then ((item_Whole.f t375 t376 t377 t378 t379 t380).bind fun t409 => ((tenementlaw08_refTxn.f k t375 t376 t377 t378 t379 t380).bind fun bt410 => ((tenementref08_Whole.f k bt410.1 bt410.2.1 bt410.2.2.1 bt410.2.2.2.1 bt410.2.2.2.2.1 bt410.2.2.2.2.2).bind fun t418 => (if t409 = t418 then (if t393.toList = bt403.1.toList then (if t394 = bt403.2 then ((item_Same.f k t375 t376 t377 t378 t379 t380 t384 t385 t386 t387 t388 t389).bind fun t419 => ((tenementlaw08_refTxn.f k t375 t376 t377 t378 t379 t380).bind fun bt420 => ((tenementlaw08_refTxn.f k t384 t385 t386 t387 t388 t389).bind fun bt428 => ((tenementref08_Same.f k bt420.1 bt420.2.1 bt420.2.2.1 bt420.2.2.2.1 bt420.2.2.2.2.1 bt420.2.2.2.2.2 bt428.1 bt428.2.1 bt428.2.2.1 bt428.2.2.2.1 bt428.2.2.2.2.1 bt428.2.2.2.2.2).bind fun t436 => (if t419 = t436 then (some true) else (none)))))) else (none)) else (none)) else (none))))) else (none)))) else (none)))))) = some r := H
  have A11 := Aside0.mk A110
  clear A110
  replace H := Option.bind_eq_some_iff.mp H
  obtain ⟨⟨t395, t396, t397, t398, t399, t400⟩, A120, H⟩ := H
  replace H : ((tenementref08_Bytes.f k t395 t396 t397 t398 t399 t400).bind fun bt403 => ((item_Right.f t362 t363 t364 t365).bind fun t405 => ((tenementref08_Right.f ((rd_T38 t370 0).f0) ((rd_T38 t370 0).f1) ((rd_T38 t370 0).f2) ((rd_T38 t370 0).f3)).bind fun t406 => (if t405 = t406 then ((item_Size.f t362 t363 t364 t365).bind fun t407 => ((tenementref08_Size.f ((rd_T38 t370 0).f0) ((rd_T38 t370 0).f1) ((rd_T38 t370 0).f2) ((rd_T38 t370 0).f3)).bind fun t408 => (if t407 = t408 then ((item_Whole.f t375 t376 t377 t378 t379 t380).bind fun t409 => ((tenementlaw08_refTxn.f k t375 t376 t377 t378 t379 t380).bind fun bt410 => ((tenementref08_Whole.f k bt410.1 bt410.2.1 bt410.2.2.1 bt410.2.2.2.1 bt410.2.2.2.2.1 bt410.2.2.2.2.2).bind fun t418 => (if t409 = t418 then (if t393.toList = bt403.1.toList then (if t394 = bt403.2 then ((item_Same.f k t375 t376 t377 t378 t379 t380 t384 t385 t386 t387 t388 t389).bind fun t419 => ((tenementlaw08_refTxn.f k t375 t376 t377 t378 t379 t380).bind fun bt420 => ((tenementlaw08_refTxn.f k t384 t385 t386 t387 t388 t389).bind fun bt428 => ((tenementref08_Same.f k bt420.1 bt420.2.1 bt420.2.2.1 bt420.2.2.2.1 bt420.2.2.2.2.1 bt420.2.2.2.2.2 bt428.1 bt428.2.1 bt428.2.2.1 bt428.2.2.2.1 bt428.2.2.2.2.1 bt428.2.2.2.2.2).bind fun t436 => (if t419 = t436 then (some true) else (none)))))) else (none)) else (none)) else (none))))) else (none)))) else (none))))) = some r := H
  have A12 := Aside0.mk A120
  clear A120
  replace H := Option.bind_eq_some_iff.mp H
  obtain ⟨⟨t403, t404⟩, A130, H⟩ := H
  replace H : ((item_Right.f t362 t363 t364 t365).bind fun t405 => ((tenementref08_Right.f ((rd_T38 t370 0).f0) ((rd_T38 t370 0).f1) ((rd_T38 t370 0).f2) ((rd_T38 t370 0).f3)).bind fun t406 => (if t405 = t406 then ((item_Size.f t362 t363 t364 t365).bind fun t407 => ((tenementref08_Size.f ((rd_T38 t370 0).f0) ((rd_T38 t370 0).f1) ((rd_T38 t370 0).f2) ((rd_T38 t370 0).f3)).bind fun t408 => (if t407 = t408 then ((item_Whole.f t375 t376 t377 t378 t379 t380).bind fun t409 => ((tenementlaw08_refTxn.f k t375 t376 t377 t378 t379 t380).bind fun bt410 => ((tenementref08_Whole.f k bt410.1 bt410.2.1 bt410.2.2.1 bt410.2.2.2.1 bt410.2.2.2.2.1 bt410.2.2.2.2.2).bind fun t418 => (if t409 = t418 then (if t393.toList = t403.toList then (if t394 = t404 then ((item_Same.f k t375 t376 t377 t378 t379 t380 t384 t385 t386 t387 t388 t389).bind fun t419 => ((tenementlaw08_refTxn.f k t375 t376 t377 t378 t379 t380).bind fun bt420 => ((tenementlaw08_refTxn.f k t384 t385 t386 t387 t388 t389).bind fun bt428 => ((tenementref08_Same.f k bt420.1 bt420.2.1 bt420.2.2.1 bt420.2.2.2.1 bt420.2.2.2.2.1 bt420.2.2.2.2.2 bt428.1 bt428.2.1 bt428.2.2.1 bt428.2.2.2.1 bt428.2.2.2.2.1 bt428.2.2.2.2.2).bind fun t436 => (if t419 = t436 then (some true) else (none)))))) else (none)) else (none)) else (none))))) else (none)))) else (none)))) = some r := H
  have A13 := Aside0.mk A130
  clear A130
  replace H := Option.bind_eq_some_iff.mp H
  obtain ⟨t405, A140, H⟩ := H
  replace H : ((tenementref08_Right.f ((rd_T38 t370 0).f0) ((rd_T38 t370 0).f1) ((rd_T38 t370 0).f2) ((rd_T38 t370 0).f3)).bind fun t406 => (if t405 = t406 then ((item_Size.f t362 t363 t364 t365).bind fun t407 => ((tenementref08_Size.f ((rd_T38 t370 0).f0) ((rd_T38 t370 0).f1) ((rd_T38 t370 0).f2) ((rd_T38 t370 0).f3)).bind fun t408 => (if t407 = t408 then ((item_Whole.f t375 t376 t377 t378 t379 t380).bind fun t409 => ((tenementlaw08_refTxn.f k t375 t376 t377 t378 t379 t380).bind fun bt410 => ((tenementref08_Whole.f k bt410.1 bt410.2.1 bt410.2.2.1 bt410.2.2.2.1 bt410.2.2.2.2.1 bt410.2.2.2.2.2).bind fun t418 => (if t409 = t418 then (if t393.toList = t403.toList then (if t394 = t404 then ((item_Same.f k t375 t376 t377 t378 t379 t380 t384 t385 t386 t387 t388 t389).bind fun t419 => ((tenementlaw08_refTxn.f k t375 t376 t377 t378 t379 t380).bind fun bt420 => ((tenementlaw08_refTxn.f k t384 t385 t386 t387 t388 t389).bind fun bt428 => ((tenementref08_Same.f k bt420.1 bt420.2.1 bt420.2.2.1 bt420.2.2.2.1 bt420.2.2.2.2.1 bt420.2.2.2.2.2 bt428.1 bt428.2.1 bt428.2.2.1 bt428.2.2.2.1 bt428.2.2.2.2.1 bt428.2.2.2.2.2).bind fun t436 => (if t419 = t436 then (some true) else (none)))))) else (none)) else (none)) else (none))))) else (none)))) else (none))) = some r := H
  have A14 := Aside0.mk A140
  clear A140
  replace H := Option.bind_eq_some_iff.mp H
  obtain ⟨t406, A150, H⟩ := H
  replace H : (if t405 = t406 then ((item_Size.f t362 t363 t364 t365).bind fun t407 => ((tenementref08_Size.f ((rd_T38 t370 0).f0) ((rd_T38 t370 0).f1) ((rd_T38 t370 0).f2) ((rd_T38 t370 0).f3)).bind fun t408 => (if t407 = t408 then ((item_Whole.f t375 t376 t377 t378 t379 t380).bind fun t409 => ((tenementlaw08_refTxn.f k t375 t376 t377 t378 t379 t380).bind fun bt410 => ((tenementref08_Whole.f k bt410.1 bt410.2.1 bt410.2.2.1 bt410.2.2.2.1 bt410.2.2.2.2.1 bt410.2.2.2.2.2).bind fun t418 => (if t409 = t418 then (if t393.toList = t403.toList then (if t394 = t404 then ((item_Same.f k t375 t376 t377 t378 t379 t380 t384 t385 t386 t387 t388 t389).bind fun t419 => ((tenementlaw08_refTxn.f k t375 t376 t377 t378 t379 t380).bind fun bt420 => ((tenementlaw08_refTxn.f k t384 t385 t386 t387 t388 t389).bind fun bt428 => ((tenementref08_Same.f k bt420.1 bt420.2.1 bt420.2.2.1 bt420.2.2.2.1 bt420.2.2.2.2.1 bt420.2.2.2.2.2 bt428.1 bt428.2.1 bt428.2.2.1 bt428.2.2.2.1 bt428.2.2.2.2.1 bt428.2.2.2.2.2).bind fun t436 => (if t419 = t436 then (some true) else (none)))))) else (none)) else (none)) else (none))))) else (none)))) else (none)) = some r := H
  have A15 := Aside0.mk A150
  clear A150
  by_cases c16 : t405 = t406
  rotate_left
  · rw [if_neg c16] at H
    exact absurd H (by simp)
  subst c16
  have H1 : ((item_Size.f t362 t363 t364 t365).bind fun t407 => ((tenementref08_Size.f ((rd_T38 t370 0).f0) ((rd_T38 t370 0).f1) ((rd_T38 t370 0).f2) ((rd_T38 t370 0).f3)).bind fun t408 => (if t407 = t408 then ((item_Whole.f t375 t376 t377 t378 t379 t380).bind fun t409 => ((tenementlaw08_refTxn.f k t375 t376 t377 t378 t379 t380).bind fun bt410 => ((tenementref08_Whole.f k bt410.1 bt410.2.1 bt410.2.2.1 bt410.2.2.2.1 bt410.2.2.2.2.1 bt410.2.2.2.2.2).bind fun t418 => (if t409 = t418 then (if t393.toList = t403.toList then (if t394 = t404 then ((item_Same.f k t375 t376 t377 t378 t379 t380 t384 t385 t386 t387 t388 t389).bind fun t419 => ((tenementlaw08_refTxn.f k t375 t376 t377 t378 t379 t380).bind fun bt420 => ((tenementlaw08_refTxn.f k t384 t385 t386 t387 t388 t389).bind fun bt428 => ((tenementref08_Same.f k bt420.1 bt420.2.1 bt420.2.2.1 bt420.2.2.2.1 bt420.2.2.2.2.1 bt420.2.2.2.2.2 bt428.1 bt428.2.1 bt428.2.2.1 bt428.2.2.2.1 bt428.2.2.2.2.1 bt428.2.2.2.2.2).bind fun t436 => (if t419 = t436 then (some true) else (none)))))) else (none)) else (none)) else (none))))) else (none)))) = some r := by rw [if_pos rfl] at H; exact H
  clear H
  have H := H1
  clear H1
  replace H := Option.bind_eq_some_iff.mp H
  obtain ⟨t407, A170, H⟩ := H
  replace H : ((tenementref08_Size.f ((rd_T38 t370 0).f0) ((rd_T38 t370 0).f1) ((rd_T38 t370 0).f2) ((rd_T38 t370 0).f3)).bind fun t408 => (if t407 = t408 then ((item_Whole.f t375 t376 t377 t378 t379 t380).bind fun t409 => ((tenementlaw08_refTxn.f k t375 t376 t377 t378 t379 t380).bind fun bt410 => ((tenementref08_Whole.f k bt410.1 bt410.2.1 bt410.2.2.1 bt410.2.2.2.1 bt410.2.2.2.2.1 bt410.2.2.2.2.2).bind fun t418 => (if t409 = t418 then (if t393.toList = t403.toList then (if t394 = t404 then ((item_Same.f k t375 t376 t377 t378 t379 t380 t384 t385 t386 t387 t388 t389).bind fun t419 => ((tenementlaw08_refTxn.f k t375 t376 t377 t378 t379 t380).bind fun bt420 => ((tenementlaw08_refTxn.f k t384 t385 t386 t387 t388 t389).bind fun bt428 => ((tenementref08_Same.f k bt420.1 bt420.2.1 bt420.2.2.1 bt420.2.2.2.1 bt420.2.2.2.2.1 bt420.2.2.2.2.2 bt428.1 bt428.2.1 bt428.2.2.1 bt428.2.2.2.1 bt428.2.2.2.2.1 bt428.2.2.2.2.2).bind fun t436 => (if t419 = t436 then (some true) else (none)))))) else (none)) else (none)) else (none))))) else (none))) = some r := H
  have A17 := Aside0.mk A170
  clear A170
  replace H := Option.bind_eq_some_iff.mp H
  obtain ⟨t408, A180, H⟩ := H
  replace H : (if t407 = t408 then ((item_Whole.f t375 t376 t377 t378 t379 t380).bind fun t409 => ((tenementlaw08_refTxn.f k t375 t376 t377 t378 t379 t380).bind fun bt410 => ((tenementref08_Whole.f k bt410.1 bt410.2.1 bt410.2.2.1 bt410.2.2.2.1 bt410.2.2.2.2.1 bt410.2.2.2.2.2).bind fun t418 => (if t409 = t418 then (if t393.toList = t403.toList then (if t394 = t404 then ((item_Same.f k t375 t376 t377 t378 t379 t380 t384 t385 t386 t387 t388 t389).bind fun t419 => ((tenementlaw08_refTxn.f k t375 t376 t377 t378 t379 t380).bind fun bt420 => ((tenementlaw08_refTxn.f k t384 t385 t386 t387 t388 t389).bind fun bt428 => ((tenementref08_Same.f k bt420.1 bt420.2.1 bt420.2.2.1 bt420.2.2.2.1 bt420.2.2.2.2.1 bt420.2.2.2.2.2 bt428.1 bt428.2.1 bt428.2.2.1 bt428.2.2.2.1 bt428.2.2.2.2.1 bt428.2.2.2.2.2).bind fun t436 => (if t419 = t436 then (some true) else (none)))))) else (none)) else (none)) else (none))))) else (none)) = some r := H
  have A18 := Aside0.mk A180
  clear A180
  by_cases c19 : t407 = t408
  rotate_left
  · rw [if_neg c19] at H
    exact absurd H (by simp)
  rw [if_pos c19] at H
  have c19b0 : (t407 == t408) = true := beq_iff_eq.mpr c19
  have c19b1 : (t407 != t408) = false := bne_eq_false_iff_eq.mpr c19
  clear c19
  replace H := Option.bind_eq_some_iff.mp H
  obtain ⟨t409, A200, H⟩ := H
  replace H : ((tenementlaw08_refTxn.f k t375 t376 t377 t378 t379 t380).bind fun bt410 => ((tenementref08_Whole.f k bt410.1 bt410.2.1 bt410.2.2.1 bt410.2.2.2.1 bt410.2.2.2.2.1 bt410.2.2.2.2.2).bind fun t418 => (if t409 = t418 then (if t393.toList = t403.toList then (if t394 = t404 then ((item_Same.f k t375 t376 t377 t378 t379 t380 t384 t385 t386 t387 t388 t389).bind fun t419 => ((tenementlaw08_refTxn.f k t375 t376 t377 t378 t379 t380).bind fun bt420 => ((tenementlaw08_refTxn.f k t384 t385 t386 t387 t388 t389).bind fun bt428 => ((tenementref08_Same.f k bt420.1 bt420.2.1 bt420.2.2.1 bt420.2.2.2.1 bt420.2.2.2.2.1 bt420.2.2.2.2.2 bt428.1 bt428.2.1 bt428.2.2.1 bt428.2.2.2.1 bt428.2.2.2.2.1 bt428.2.2.2.2.2).bind fun t436 => (if t419 = t436 then (some true) else (none)))))) else (none)) else (none)) else (none)))) = some r := H
  have A20 := Aside0.mk A200
  clear A200
  replace H := Option.bind_eq_some_iff.mp H
  obtain ⟨⟨t410, t411, t412, t413, t414, t415⟩, A210, H⟩ := H
  replace H : ((tenementref08_Whole.f k t410 t411 t412 t413 t414 t415).bind fun t418 => (if t409 = t418 then (if t393.toList = t403.toList then (if t394 = t404 then ((item_Same.f k t375 t376 t377 t378 t379 t380 t384 t385 t386 t387 t388 t389).bind fun t419 => ((tenementlaw08_refTxn.f k t375 t376 t377 t378 t379 t380).bind fun bt420 => ((tenementlaw08_refTxn.f k t384 t385 t386 t387 t388 t389).bind fun bt428 => ((tenementref08_Same.f k bt420.1 bt420.2.1 bt420.2.2.1 bt420.2.2.2.1 bt420.2.2.2.2.1 bt420.2.2.2.2.2 bt428.1 bt428.2.1 bt428.2.2.1 bt428.2.2.2.1 bt428.2.2.2.2.1 bt428.2.2.2.2.2).bind fun t436 => (if t419 = t436 then (some true) else (none)))))) else (none)) else (none)) else (none))) = some r := H
  have A21 := Aside0.mk A210
  clear A210
  replace H := Option.bind_eq_some_iff.mp H
  obtain ⟨t418, A220, H⟩ := H
  replace H : (if t409 = t418 then (if t393.toList = t403.toList then (if t394 = t404 then ((item_Same.f k t375 t376 t377 t378 t379 t380 t384 t385 t386 t387 t388 t389).bind fun t419 => ((tenementlaw08_refTxn.f k t375 t376 t377 t378 t379 t380).bind fun bt420 => ((tenementlaw08_refTxn.f k t384 t385 t386 t387 t388 t389).bind fun bt428 => ((tenementref08_Same.f k bt420.1 bt420.2.1 bt420.2.2.1 bt420.2.2.2.1 bt420.2.2.2.2.1 bt420.2.2.2.2.2 bt428.1 bt428.2.1 bt428.2.2.1 bt428.2.2.2.1 bt428.2.2.2.2.1 bt428.2.2.2.2.2).bind fun t436 => (if t419 = t436 then (some true) else (none)))))) else (none)) else (none)) else (none)) = some r := H
  have A22 := Aside0.mk A220
  clear A220
  by_cases c23 : t409 = t418
  rotate_left
  · rw [if_neg c23] at H
    exact absurd H (by simp)
  subst c23
  have H1 : (if t393.toList = t403.toList then (if t394 = t404 then ((item_Same.f k t375 t376 t377 t378 t379 t380 t384 t385 t386 t387 t388 t389).bind fun t419 => ((tenementlaw08_refTxn.f k t375 t376 t377 t378 t379 t380).bind fun bt420 => ((tenementlaw08_refTxn.f k t384 t385 t386 t387 t388 t389).bind fun bt428 => ((tenementref08_Same.f k bt420.1 bt420.2.1 bt420.2.2.1 bt420.2.2.2.1 bt420.2.2.2.2.1 bt420.2.2.2.2.2 bt428.1 bt428.2.1 bt428.2.2.1 bt428.2.2.2.1 bt428.2.2.2.2.1 bt428.2.2.2.2.2).bind fun t436 => (if t419 = t436 then (some true) else (none)))))) else (none)) else (none)) = some r := by rw [if_pos rfl] at H; exact H
  clear H
  have H := H1
  clear H1
  by_cases c24 : t393.toList = t403.toList
  rotate_left
  · rw [if_neg c24] at H
    exact absurd H (by simp)
  rw [if_pos c24] at H
  have c24b0 : (t393.toList == t403.toList) = true := beq_iff_eq.mpr c24
  have c24b1 : (t393.toList != t403.toList) = false := bne_eq_false_iff_eq.mpr c24
  clear c24
  by_cases c25 : t394 = t404
  rotate_left
  · rw [if_neg c25] at H
    exact absurd H (by simp)
  subst c25
  have H1 : ((item_Same.f k t375 t376 t377 t378 t379 t380 t384 t385 t386 t387 t388 t389).bind fun t419 => ((tenementlaw08_refTxn.f k t375 t376 t377 t378 t379 t380).bind fun bt420 => ((tenementlaw08_refTxn.f k t384 t385 t386 t387 t388 t389).bind fun bt428 => ((tenementref08_Same.f k bt420.1 bt420.2.1 bt420.2.2.1 bt420.2.2.2.1 bt420.2.2.2.2.1 bt420.2.2.2.2.2 bt428.1 bt428.2.1 bt428.2.2.1 bt428.2.2.2.1 bt428.2.2.2.2.1 bt428.2.2.2.2.2).bind fun t436 => (if t419 = t436 then (some true) else (none)))))) = some r := by rw [if_pos rfl] at H; exact H
  clear H
  have H := H1
  clear H1
  replace H := Option.bind_eq_some_iff.mp H
  obtain ⟨t419, A260, H⟩ := H
  replace H : ((tenementlaw08_refTxn.f k t375 t376 t377 t378 t379 t380).bind fun bt420 => ((tenementlaw08_refTxn.f k t384 t385 t386 t387 t388 t389).bind fun bt428 => ((tenementref08_Same.f k bt420.1 bt420.2.1 bt420.2.2.1 bt420.2.2.2.1 bt420.2.2.2.2.1 bt420.2.2.2.2.2 bt428.1 bt428.2.1 bt428.2.2.1 bt428.2.2.2.1 bt428.2.2.2.2.1 bt428.2.2.2.2.2).bind fun t436 => (if t419 = t436 then (some true) else (none))))) = some r := H
  have A26 := Aside0.mk A260
  clear A260
  replace H := Option.bind_eq_some_iff.mp H
  obtain ⟨⟨t420, t421, t422, t423, t424, t425⟩, A270, H⟩ := H
  replace H : ((tenementlaw08_refTxn.f k t384 t385 t386 t387 t388 t389).bind fun bt428 => ((tenementref08_Same.f k t420 t421 t422 t423 t424 t425 bt428.1 bt428.2.1 bt428.2.2.1 bt428.2.2.2.1 bt428.2.2.2.2.1 bt428.2.2.2.2.2).bind fun t436 => (if t419 = t436 then (some true) else (none)))) = some r := H
  have A27 := Aside0.mk A270
  clear A270
  replace H := Option.bind_eq_some_iff.mp H
  obtain ⟨⟨t428, t429, t430, t431, t432, t433⟩, A280, H⟩ := H
  replace H : ((tenementref08_Same.f k t420 t421 t422 t423 t424 t425 t428 t429 t430 t431 t432 t433).bind fun t436 => (if t419 = t436 then (some true) else (none))) = some r := H
  have A28 := Aside0.mk A280
  clear A280
  replace H := Option.bind_eq_some_iff.mp H
  obtain ⟨t436, A290, H⟩ := H
  replace H : (if t419 = t436 then (some true) else (none)) = some r := H
  have A29 := Aside0.mk A290
  clear A290
  by_cases c30 : t419 = t436
  rotate_left
  · rw [if_neg c30] at H
    exact absurd H (by simp)
  subst c30
  have H1 : (some true) = some r := by rw [if_pos rfl] at H; exact H
  clear H
  have H := H1
  clear H1
  obtain rfl := Option.some.inj H
  go_enter Try.func3, Try.ntmps3
  try go_wp2_with (first | ((with_reducible refine gate_dst (N := 3) rfl ?_); refine box_event ?hg (N := 3) ?hd (cs := #[.string a0_0, .string a0_1, .string a0_2, .bool a0_3, .bool a0_4, .int .u8 a0_5]) (t := 25) ?hr ?_; (case hd => rfl); (case hg => rfl); (case hr => first | (go_simp; done) | (go_simp; rfl)); intro gb358 hg w31 hbox hb; have BK358 := Aside0.mk (hbox); have GW358 := Kw_ HB hg; have GE358 := GW358; replace HB := Ks_ HB hb; clear hb hbox hg) | ((with_reducible refine gate_dst (N := 4) rfl ?_); refine box_event ?hg (N := 4) ?hd (cs := #[.int .u64 a1_0, .int .u64 a1_1, .int .u64 a1_2, .int .u64 a1_3, .int .i64 a1_4, .bool a1_5, .slice A1_6 l1_6.length c1_6, .bool a1_7]) (t := 35) ?hr ?_; (case hd => rfl); (case hg => rfl); (case hr => first | (go_simp; done) | (go_simp; rfl)); intro gb359 hg w32 hbox hb; have BK359 := Aside0.mk (hbox); have GW359 := Kw_ HB hg; have GE359 := GW359; have NB358_359 := Kl_ BK358 hg; have NB359_358 := Kr_ BK358 hg; replace BK358 := Kb_ BK358 hb; replace HB := Ks_ HB hb; clear hb hbox hg) | ((with_reducible refine gate_dst (N := 5) rfl ?_); refine box_event ?hg (N := 5) ?hd (cs := #[.int .u64 a2_0, .int .u64 a2_1, .int .u64 a2_2, .int .u64 a2_3, .int .i64 a2_4, .bool a2_5, .slice A2_6 l2_6.length c2_6, .bool a2_7]) (t := 35) ?hr ?_; (case hd => rfl); (case hg => rfl); (case hr => first | (go_simp; done) | (go_simp; rfl)); intro gb360 hg w33 hbox hb; have BK360 := Aside0.mk (hbox); have GW360 := Kw_ HB hg; have GE360 := GW360; have NB358_360 := Kl_ BK358 hg; have NB360_358 := Kr_ BK358 hg; have NB359_360 := Kl_ BK359 hg; have NB360_359 := Kr_ BK359 hg; replace BK358 := Kb_ BK358 hb; replace BK359 := Kb_ BK359 hb; replace HB := Ks_ HB hb; clear hb hbox hg) | ((with_reducible refine gate_callee (f := 11) rfl ?_); refine Kg_ (some 16) rfl rfl Try.func11 (by kernel_rfl) rfl #[] rfl ?_; (with_reducible refine (tenementlaw08_examples.calls k  true _ A4.out).mono ?_); rintro e w34 ⟨rfl, hb⟩; refine ⟨_, rfl, ?_⟩; replace BK358 := Kb_ BK358 hb; replace BK359 := Kb_ BK359 hb; replace BK360 := Kb_ BK360 hb; replace HB := Ks_ HB hb; (try clear hb); (try clear hb2); (try clear hk); (try clear hi); have hnb35 := NB358_359.out; have hnc35 := NB359_358.out; have hnb36 := NB358_360.out; have hnc36 := NB360_358.out; obtain ⟨hcz37_0, hcz37_1, hcz37_2, hcz37_3, hcz37_4, hcz37_5, hfz37_0, hfz37_1, hfz37_2, hfz37_3, hfz37_4, hfz37_5⟩ := Ke6_ BK358.out) | ((with_reducible refine gate_callee (f := 12) rfl ?_); refine Kg_ (some 20) rfl rfl Try.func12 (by kernel_rfl) rfl #[.agg #[.string a0_0, .string a0_1, .string a0_2, .bool a0_3, .bool a0_4, .int .u8 a0_5]] rfl ?_; (with_reducible refine (tenementlaw08_Put_write.calls a0_0 a0_1 a0_2 a0_3 a0_4 a0_5 t362 t363 t364 t365 _ A6.out).mono ?_); rintro e w38 ⟨rfl, hb⟩; refine ⟨_, rfl, ?_⟩; replace BK358 := Kb_ BK358 hb; replace BK359 := Kb_ BK359 hb; replace BK360 := Kb_ BK360 hb; replace HB := Ks_ HB hb; (try clear hb); (try clear hb2); (try clear hk); (try clear hi)) | ((with_reducible refine gate_dst (N := 8) rfl ?_); refine box_event ?hg (N := 8) ?hd (cs := #[.string (⟨#[]⟩ : ByteArray), .string (⟨#[]⟩ : ByteArray), .string (⟨#[]⟩ : ByteArray), .bool false]) (t := 23) ?hr ?_; (case hd => rfl); (case hg => rfl); (case hr => first | (go_simp; done) | (go_simp; rfl)); intro gb366 hg w39 hbox hb; have BK366 := Aside0.mk (hbox); have GW366 := Kw_ HB hg; have GE366 := GW366; have NB358_366 := Kl_ BK358 hg; have NB366_358 := Kr_ BK358 hg; have NB359_366 := Kl_ BK359 hg; have NB366_359 := Kr_ BK359 hg; have NB360_366 := Kl_ BK360 hg; have NB366_360 := Kr_ BK360 hg; replace BK358 := Kb_ BK358 hb; replace BK359 := Kb_ BK359 hb; replace BK360 := Kb_ BK360 hb; replace HB := Ks_ HB hb; clear hb hbox hg; have hnb40 := NB366_358.out; have hnc40 := NB358_366.out; have hnb41 := NB366_359.out; have hnc41 := NB359_366.out; have hnb42 := NB366_360.out; have hnc42 := NB360_366.out; obtain ⟨hcz43_0, hcz43_1, hcz43_2, hcz43_3, hfz43_0, hfz43_1, hfz43_2, hfz43_3⟩ := Ke4_ BK366.out) | ((with_reducible refine gate_dst (N := 22) rfl ?_); refine Kd.R_lit k23 _ 23 ?hg (N := 22) ?hd (xs := ([(⟨t362, t363, t364, t365⟩ : S23)] : List (S23))) (inner := [.string t362, .string t363, .string t364, .bool t365]) (ok := fun _ => True) (okp := fun _ => True) ?hr ?hp (fun _ hk => hk) trivial (Below.refl _ _) (Nat.le_refl _) (by simp) ?_; (case hd => rfl); (case hg => rfl); (case hr => first | (go_simp; done) | (go_simp; rfl)); (case hp => exact (Reps.c4 (show Kd.M k23 _ _ _ (⟨t362, t363, t364, t365⟩ : S23) [.string t362, .string t363, .string t364, .bool t365] from (k23_mkM _ _ _ (⟨t362, t363, t364, t365⟩ : S23) )) (Reps.none _ _))); intro v368 w44 ho45 hb hg_ hnew_; clear hg_ hnew_; (first | rw [← Ny367.out] at ho45 | (simp only [Int.reduceToNat] at ho45; rw [← Ny367.out] at ho45)); have HO369 := Aside0.mk (Kd.R_lower (Kd.R_newB ho45 (g := gb366) (o := .cells #[.string t362, .string t363, .string t364, .bool t365] 23 (0, 0)) (by refine Kv_ ?_; refine blk_put (cs := #[.string t362, .string t363, .string t364, .bool false]) ?_ 3 _ rfl; refine Kv_ ?_; refine blk_put (cs := #[.string t362, .string t363, .string (⟨#[]⟩ : ByteArray), .bool false]) ?_ 2 _ rfl; refine Kv_ ?_; refine blk_put (cs := #[.string t362, .string (⟨#[]⟩ : ByteArray), .string (⟨#[]⟩ : ByteArray), .bool false]) ?_ 1 _ rfl; refine Kv_ ?_; refine blk_put (cs := #[.string (⟨#[]⟩ : ByteArray), .string (⟨#[]⟩ : ByteArray), .string (⟨#[]⟩ : ByteArray), .bool false]) ?_ 0 _ rfl; exact Kq_ BK366)) (below_size (by repeat (first | (with_reducible first | exact HB.out | apply below_alloc | apply pw_below_drewN | apply below_drew1 | refine below_set ?_ GE358.out | refine below_set ?_ GE359.out | refine below_set ?_ GE360.out | refine below_set ?_ GE366.out) | exact HB.out)))); replace BK358 := Kf_ BK358 NB358_366 hb; replace BK359 := Kf_ BK359 NB359_366 hb; replace BK360 := Kf_ BK360 NB360_366 hb; replace BK366 := Aside0.mk (blk_below (g := gb366) (o := .cells #[.string t362, .string t363, .string t364, .bool t365] 23 (0, 0)) (by refine Kv_ ?_; refine blk_put (cs := #[.string t362, .string t363, .string t364, .bool false]) ?_ 3 _ rfl; refine Kv_ ?_; refine blk_put (cs := #[.string t362, .string t363, .string (⟨#[]⟩ : ByteArray), .bool false]) ?_ 2 _ rfl; refine Kv_ ?_; refine blk_put (cs := #[.string t362, .string (⟨#[]⟩ : ByteArray), .string (⟨#[]⟩ : ByteArray), .bool false]) ?_ 1 _ rfl; refine Kv_ ?_; refine blk_put (cs := #[.string (⟨#[]⟩ : ByteArray), .string (⟨#[]⟩ : ByteArray), .string (⟨#[]⟩ : ByteArray), .bool false]) ?_ 0 _ rfl; exact Kq_ BK366) hb); replace HB := Kt_ HB GE366 hb; clear hb ho45; obtain ⟨Ao46, co46, eo46⟩ := Kd.R_slice HO369.out; subst eo46) | ((with_reducible refine gate_callee (f := 13) rfl ?_); refine Kg_ (some 23) rfl rfl Try.func13 (by kernel_rfl) rfl #[.slice Ao46 y367.length co46] rfl ?_; (with_reducible refine (tenementlaw08_refWrites.calls k _ _ y367 t370 _ ?side1 ?side2 A7.out).mono ?_); (case side1 => repeat (first | exact (Kd.R_reads' HO369.out).2.2 | (with_reducible refine Kd.C_alloc ?_ _) | (with_reducible refine Kd.C_drewN ?_ _) | (with_reducible refine Kd.C_drew ?_))); (case side2 => exact (Kd.R_reads' HO369.out).2.1); rintro e w47 ⟨v371, rfl, ho0, hb⟩; refine ⟨_, rfl, ?_⟩; have HO372 := Aside0.mk (Kd.R_lower ho0 (below_size (by repeat (first | (with_reducible first | exact HB.out | apply below_alloc | apply pw_below_drewN | apply below_drew1 | refine below_set ?_ GE358.out | refine below_set ?_ GE359.out | refine below_set ?_ GE360.out | refine below_set ?_ GE366.out) | exact HB.out)))); replace HO369 := Aside0.mk (Kd.R_below (Ku_ HO369) hb); replace BK358 := Kb_ BK358 hb; replace BK359 := Kb_ BK359 hb; replace BK360 := Kb_ BK360 hb; replace BK366 := Kb_ BK366 hb; replace HB := Ks_ HB hb; (try clear hb); (try clear hb2); (try clear hk); (try clear hi); (try clear ho0); obtain ⟨Ao48, co48, eo48⟩ := Kd.R_slice HO372.out; subst eo48; have p373 : 0 ≤ (0 : Int) := (by omega); have q373 : 0 < (t370.length : Int) := of_decide_eq_true (by first | (with_reducible assumption) | assumption); obtain ⟨ad373, e373, hx373_0, hx373_1, hx373_2, hx373_3⟩ := at_T38 (Kd.R_reads' HO372.out).2.2 0 p373 q373; cases e373; have qi373 : (0 < t370.length) = True := eq_true (by omega); (try rw [show ((0 : Int)).toNat = 0 from rfl] at hx373_0); (try rw [show 0 * 4 = 0 from rfl] at hx373_0); (try rw [Addr.add_zero'] at hx373_0); (try rw [show ((0 : Int)).toNat = 0 from rfl] at hx373_1); (try rw [show 0 * 4 = 0 from rfl] at hx373_1); (try rw [Addr.add_zero'] at hx373_1); (try rw [show ((0 : Int)).toNat = 0 from rfl] at hx373_2); (try rw [show 0 * 4 = 0 from rfl] at hx373_2); (try rw [Addr.add_zero'] at hx373_2); (try rw [show ((0 : Int)).toNat = 0 from rfl] at hx373_3); (try rw [show 0 * 4 = 0 from rfl] at hx373_3); (try rw [Addr.add_zero'] at hx373_3); replace p373 := eq_true p373; replace q373 := eq_true q373) | ((with_reducible refine gate_dst (N := 9) rfl ?_); refine box_event ?hg (N := 9) ?hd (cs := #[.string (⟨#[]⟩ : ByteArray), .string (⟨#[]⟩ : ByteArray), .string (⟨#[]⟩ : ByteArray), .bool false]) (t := 38) ?hr ?_; (case hd => rfl); (case hg => rfl); (case hr => first | (go_simp; done) | (go_simp; rfl)); intro gb374 hg w49 hbox hb; have BK374 := Aside0.mk (hbox); have GW374 := Kw_ HB hg; have GE374 := GW374; have NB358_374 := Kl_ BK358 hg; have NB374_358 := Kr_ BK358 hg; have NB359_374 := Kl_ BK359 hg; have NB374_359 := Kr_ BK359 hg; have NB360_374 := Kl_ BK360 hg; have NB374_360 := Kr_ BK360 hg; have NB366_374 := Kl_ BK366 hg; have NB374_366 := Kr_ BK366 hg; replace HO369 := Aside0.mk (Kd.R_below (Ku_ HO369) hb); replace HO372 := Aside0.mk (Kd.R_below (Kd.R_elderB (Ku_ HO372) gb374 (Nat.le_of_eq hg.symm)) hb); replace BK358 := Kb_ BK358 hb; replace BK359 := Kb_ BK359 hb; replace BK360 := Kb_ BK360 hb; replace BK366 := Kb_ BK366 hb; replace HB := Ks_ HB hb; clear hb hbox hg; have hnb50 := NB374_358.out; have hnc50 := NB358_374.out; have hnb51 := NB374_359.out; have hnc51 := NB359_374.out; have hnb52 := NB374_360.out; have hnc52 := NB360_374.out; have hnb53 := NB374_366.out; have hnc53 := NB366_374.out; obtain ⟨hcz54_0, hcz54_1, hcz54_2, hcz54_3, hfz54_0, hfz54_1, hfz54_2, hfz54_3⟩ := Ke4_ BK374.out; have hnb55 := NB359_360.out; have hnc55 := NB360_359.out; obtain ⟨hcz56_0, hcz56_1, hcz56_2, hcz56_3, hcz56_4, hcz56_5, hcz56_6, hcz56_7, hfz56_0, hfz56_1, hfz56_2, hfz56_3, hfz56_4, hfz56_5, hfz56_6, hfz56_7⟩ := Ke8_ BK359.out) | ((with_reducible refine gate_callee (f := 14) rfl ?_); refine Kg_ (some 27) rfl rfl Try.func14 (by kernel_rfl) rfl #[.agg #[.int .u64 a1_0, .int .u64 a1_1, .int .u64 a1_2, .int .u64 a1_3, .int .i64 a1_4, .bool a1_5, .slice A1_6 l1_6.length c1_6, .bool a1_7]] rfl ?_; (with_reducible refine (tenementlaw08_Deal_deal.calls k a1_0 a1_1 a1_2 a1_3 a1_4 a1_5 _ _ l1_6 a1_7 t375 t376 t377 t378 t379 t380 _ ?side1 ?side2 A9.out).mono ?_); (case side1 => exact Kd.C_below HR1_6.out (by repeat (first | (with_reducible first | exact HB.out | apply below_alloc | apply pw_below_drewN | apply below_drew1 | refine below_set ?_ GE358.out | refine below_set ?_ GE359.out | refine below_set ?_ GE360.out | refine below_set ?_ GE366.out | refine below_set ?_ GE374.out) | exact HB.out))); (case side2 => exact HC1_6.out); rintro e w57 ⟨v381, rfl, ho0, hb⟩; refine ⟨_, rfl, ?_⟩; have HO382 := Aside0.mk (Kd.R_lower (Kd.R_newB (Kd.R_new' ho0 (Kd.R_lt (by (with_reducible repeat (first | apply Kd.R_alloc | apply Kd.R_drewN | apply Kd.R_drew)); exact (Kd.R_mono (Kd.R_far (p := ⟨gb374, 3, none⟩) (Kd.R_far (p := ⟨gb374, 2, none⟩) (Kd.R_far (p := ⟨gb374, 1, none⟩) (Kd.R_far (p := ⟨gb374, 0, none⟩) (Kd.R_types HO369.out BK374.out (by decide)) (fun _ hk => hk.2) (.string ((rd_T38 t370 0).f0))) (fun _ hk => hk.2) (.string ((rd_T38 t370 0).f1))) (fun _ hk => hk.2) (.string ((rd_T38 t370 0).f2))) (fun _ hk => hk.2) (.bool ((rd_T38 t370 0).f3))) (fun _ h_ => h_.1))))) (g := gb366) (o := .cells #[.string t362, .string t363, .string t364, .bool t365] 23 (0, 0)) (by (repeat (first | (with_reducible first | refine blk_drewN ?_ _ | refine blk_drew ?_ | refine blk_alloc ?_ _) | refine blk_far ?_ NB366_374.out _)); exact BK366.out)) (below_size (by repeat (first | (with_reducible first | exact HB.out | apply below_alloc | apply pw_below_drewN | apply below_drew1 | refine below_set ?_ GE358.out | refine below_set ?_ GE359.out | refine below_set ?_ GE360.out | refine below_set ?_ GE366.out | refine below_set ?_ GE374.out) | exact HB.out)))); replace HO369 := Aside0.mk (Kd.R_elder' (by (with_reducible repeat (first | apply Kd.R_alloc | apply Kd.R_drewN | apply Kd.R_drew)); exact (Kd.R_mono (Kd.R_far (p := ⟨gb374, 3, none⟩) (Kd.R_far (p := ⟨gb374, 2, none⟩) (Kd.R_far (p := ⟨gb374, 1, none⟩) (Kd.R_far (p := ⟨gb374, 0, none⟩) (Kd.R_types HO369.out BK374.out (by decide)) (fun _ hk => hk.2) (.string ((rd_T38 t370 0).f0))) (fun _ hk => hk.2) (.string ((rd_T38 t370 0).f1))) (fun _ hk => hk.2) (.string ((rd_T38 t370 0).f2))) (fun _ hk => hk.2) (.bool ((rd_T38 t370 0).f3))) (fun _ h_ => h_.1))) (Kd.R_base ho0) hb); replace HO372 := Aside0.mk (Kd.R_below (by (with_reducible repeat (first | apply Kd.R_alloc | apply Kd.R_drewN | apply Kd.R_drew)); exact (Kd.R_mono (Kd.R_far (p := ⟨gb374, 3, none⟩) (Kd.R_far (p := ⟨gb374, 2, none⟩) (Kd.R_far (p := ⟨gb374, 1, none⟩) (Kd.R_far (p := ⟨gb374, 0, none⟩) (Kd.R_mono HO372.out (fun k_ hk => (⟨hk, hk.2⟩ : _ ∧ k_ ≠ gb374))) (fun _ hk => hk.2) (.string ((rd_T38 t370 0).f0))) (fun _ hk => hk.2) (.string ((rd_T38 t370 0).f1))) (fun _ hk => hk.2) (.string ((rd_T38 t370 0).f2))) (fun _ hk => hk.2) (.bool ((rd_T38 t370 0).f3))) (fun _ h_ => h_.1))) hb); replace BK358 := Kf_ BK358 NB358_374 hb; replace BK359 := Kf_ BK359 NB359_374 hb; replace BK360 := Kf_ BK360 NB360_374 hb; replace BK366 := Kf_ BK366 NB366_374 hb; replace BK374 := Aside0.mk (blk_below (g := gb374) (o := .cells #[.string ((rd_T38 t370 0).f0), .string ((rd_T38 t370 0).f1), .string ((rd_T38 t370 0).f2), .bool ((rd_T38 t370 0).f3)] 38 (0, 0)) (by refine Kv_ ?_; refine blk_put (cs := #[.string ((rd_T38 t370 0).f0), .string ((rd_T38 t370 0).f1), .string ((rd_T38 t370 0).f2), .bool false]) ?_ 3 _ rfl; refine Kv_ ?_; refine blk_put (cs := #[.string ((rd_T38 t370 0).f0), .string ((rd_T38 t370 0).f1), .string (⟨#[]⟩ : ByteArray), .bool false]) ?_ 2 _ rfl; refine Kv_ ?_; refine blk_put (cs := #[.string ((rd_T38 t370 0).f0), .string (⟨#[]⟩ : ByteArray), .string (⟨#[]⟩ : ByteArray), .bool false]) ?_ 1 _ rfl; refine Kv_ ?_; refine blk_put (cs := #[.string (⟨#[]⟩ : ByteArray), .string (⟨#[]⟩ : ByteArray), .string (⟨#[]⟩ : ByteArray), .bool false]) ?_ 0 _ rfl; exact Kq_ BK374) hb); replace HB := Kt_ HB GE374 hb; (try clear hb); (try clear hb2); (try clear hk); (try clear hi); (try clear ho0)) | ((with_reducible refine gate_dst (N := 10) rfl ?_); refine box_event ?hg (N := 10) ?hd (cs := #[.int .u64 0, .int .u64 0, .int .u64 0, .int .u64 0, .int .i64 0, .slice none 0 0]) (t := 43) ?hr ?_; (case hd => rfl); (case hg => rfl); (case hr => first | (go_simp; done) | (go_simp; rfl)); intro gb383 hg w58 hbox hb; have BK383 := Aside0.mk (hbox); have GW383 := Kw_ HB hg; have GE383 := GW383; have NB358_383 := Kl_ BK358 hg; have NB383_358 := Kr_ BK358 hg; have NB359_383 := Kl_ BK359 hg; have NB383_359 := Kr_ BK359 hg; have NB360_383 := Kl_ BK360 hg; have NB383_360 := Kr_ BK360 hg; have NB366_383 := Kl_ BK366 hg; have NB383_366 := Kr_ BK366 hg; have NB374_383 := Kl_ BK374 hg; have NB383_374 := Kr_ BK374 hg; replace HO369 := Aside0.mk (Kd.R_below (Ku_ HO369) hb); replace HO372 := Aside0.mk (Kd.R_below (Ku_ HO372) hb); replace HO382 := Aside0.mk (Kd.R_below (Ku_ HO382) hb); replace BK358 := Kb_ BK358 hb; replace BK359 := Kb_ BK359 hb; replace BK360 := Kb_ BK360 hb; replace BK366 := Kb_ BK366 hb; replace BK374 := Kb_ BK374 hb; replace HB := Ks_ HB hb; clear hb hbox hg; have hnb59 := NB383_358.out; have hnc59 := NB358_383.out; have hnb60 := NB383_359.out; have hnc60 := NB359_383.out; have hnb61 := NB383_360.out; have hnc61 := NB360_383.out; have hnb62 := NB383_366.out; have hnc62 := NB366_383.out; have hnb63 := NB383_374.out; have hnc63 := NB374_383.out; obtain ⟨hcz64_0, hcz64_1, hcz64_2, hcz64_3, hcz64_4, hcz64_5, hfz64_0, hfz64_1, hfz64_2, hfz64_3, hfz64_4, hfz64_5⟩ := Ke6_ BK383.out; obtain ⟨Ao65, co65, eo65⟩ := Kd.R_slice HO382.out; subst eo65; obtain ⟨hcz66_0, hcz66_1, hcz66_2, hcz66_3, hcz66_4, hcz66_5, hcz66_6, hcz66_7, hfz66_0, hfz66_1, hfz66_2, hfz66_3, hfz66_4, hfz66_5, hfz66_6, hfz66_7⟩ := Ke8_ BK360.out) | ((with_reducible refine gate_callee (f := 14) rfl ?_); refine Kg_ (some 29) rfl rfl Try.func14 (by kernel_rfl) rfl #[.agg #[.int .u64 a2_0, .int .u64 a2_1, .int .u64 a2_2, .int .u64 a2_3, .int .i64 a2_4, .bool a2_5, .slice A2_6 l2_6.length c2_6, .bool a2_7]] rfl ?_; (with_reducible refine (tenementlaw08_Deal_deal.calls k a2_0 a2_1 a2_2 a2_3 a2_4 a2_5 _ _ l2_6 a2_7 t384 t385 t386 t387 t388 t389 _ ?side1 ?side2 A10.out).mono ?_); (case side1 => exact Kd.C_below HR2_6.out (by repeat (first | (with_reducible first | exact HB.out | apply below_alloc | apply pw_below_drewN | apply below_drew1 | refine below_set ?_ GE358.out | refine below_set ?_ GE359.out | refine below_set ?_ GE360.out | refine below_set ?_ GE366.out | refine below_set ?_ GE374.out | refine below_set ?_ GE383.out) | exact HB.out))); (case side2 => exact HC2_6.out); rintro e w67 ⟨v390, rfl, ho0, hb⟩; refine ⟨_, rfl, ?_⟩; have HO391 := Aside0.mk (Kd.R_lower (Kd.R_newB (Kd.R_new' (Kd.R_new' ho0 (Kd.R_lt (by (with_reducible repeat (first | apply Kd.R_alloc | apply Kd.R_drewN | apply Kd.R_drew)); exact (Kd.R_mono (Kd.R_far (p := ⟨gb383, 5, none⟩) (Kd.R_far (p := ⟨gb383, 4, none⟩) (Kd.R_far (p := ⟨gb383, 3, none⟩) (Kd.R_far (p := ⟨gb383, 2, none⟩) (Kd.R_far (p := ⟨gb383, 1, none⟩) (Kd.R_far (p := ⟨gb383, 0, none⟩) (Kd.R_types HO369.out BK383.out (by decide)) (fun _ hk => hk.2) (.int .u64 t375)) (fun _ hk => hk.2) (.int .u64 t376)) (fun _ hk => hk.2) (.int .u64 t377)) (fun _ hk => hk.2) (.int .u64 t378)) (fun _ hk => hk.2) (.int .i64 t379)) (fun _ hk => hk.2) (.slice Ao65 t380.length co65)) (fun _ h_ => h_.1))))) (Kd.R_lt (by (with_reducible repeat (first | apply Kd.R_alloc | apply Kd.R_drewN | apply Kd.R_drew)); exact (Kd.R_mono (Kd.R_far (p := ⟨gb383, 5, none⟩) (Kd.R_far (p := ⟨gb383, 4, none⟩) (Kd.R_far (p := ⟨gb383, 3, none⟩) (Kd.R_far (p := ⟨gb383, 2, none⟩) (Kd.R_far (p := ⟨gb383, 1, none⟩) (Kd.R_far (p := ⟨gb383, 0, none⟩) (Kd.R_types HO382.out BK383.out (by decide)) (fun _ hk => hk.2) (.int .u64 t375)) (fun _ hk => hk.2) (.int .u64 t376)) (fun _ hk => hk.2) (.int .u64 t377)) (fun _ hk => hk.2) (.int .u64 t378)) (fun _ hk => hk.2) (.int .i64 t379)) (fun _ hk => hk.2) (.slice Ao65 t380.length co65)) (fun _ h_ => h_.1))))) (g := gb366) (o := .cells #[.string t362, .string t363, .string t364, .bool t365] 23 (0, 0)) (by (repeat (first | (with_reducible first | refine blk_drewN ?_ _ | refine blk_drew ?_ | refine blk_alloc ?_ _) | refine blk_far ?_ NB366_383.out _)); exact BK366.out)) (below_size (by repeat (first | (with_reducible first | exact HB.out | apply below_alloc | apply pw_below_drewN | apply below_drew1 | refine below_set ?_ GE358.out | refine below_set ?_ GE359.out | refine below_set ?_ GE360.out | refine below_set ?_ GE366.out | refine below_set ?_ GE374.out | refine below_set ?_ GE383.out) | exact HB.out)))); replace HO369 := Aside0.mk (Kd.R_elder' (by (with_reducible repeat (first | apply Kd.R_alloc | apply Kd.R_drewN | apply Kd.R_drew)); exact (Kd.R_mono (Kd.R_far (p := ⟨gb383, 5, none⟩) (Kd.R_far (p := ⟨gb383, 4, none⟩) (Kd.R_far (p := ⟨gb383, 3, none⟩) (Kd.R_far (p := ⟨gb383, 2, none⟩) (Kd.R_far (p := ⟨gb383, 1, none⟩) (Kd.R_far (p := ⟨gb383, 0, none⟩) (Kd.R_types HO369.out BK383.out (by decide)) (fun _ hk => hk.2) (.int .u64 t375)) (fun _ hk => hk.2) (.int .u64 t376)) (fun _ hk => hk.2) (.int .u64 t377)) (fun _ hk => hk.2) (.int .u64 t378)) (fun _ hk => hk.2) (.int .i64 t379)) (fun _ hk => hk.2) (.slice Ao65 t380.length co65)) (fun _ h_ => h_.1))) (Kd.R_base ho0) hb); replace HO372 := Aside0.mk (Kd.R_below (by (with_reducible repeat (first | apply Kd.R_alloc | apply Kd.R_drewN | apply Kd.R_drew)); exact (Kd.R_mono (Kd.R_far (p := ⟨gb383, 5, none⟩) (Kd.R_far (p := ⟨gb383, 4, none⟩) (Kd.R_far (p := ⟨gb383, 3, none⟩) (Kd.R_far (p := ⟨gb383, 2, none⟩) (Kd.R_far (p := ⟨gb383, 1, none⟩) (Kd.R_far (p := ⟨gb383, 0, none⟩) (Kd.R_types HO372.out BK383.out (by decide)) (fun _ hk => hk.2) (.int .u64 t375)) (fun _ hk => hk.2) (.int .u64 t376)) (fun _ hk => hk.2) (.int .u64 t377)) (fun _ hk => hk.2) (.int .u64 t378)) (fun _ hk => hk.2) (.int .i64 t379)) (fun _ hk => hk.2) (.slice Ao65 t380.length co65)) (fun _ h_ => h_.1))) hb); replace HO382 := Aside0.mk (Kd.R_elder' (by (with_reducible repeat (first | apply Kd.R_alloc | apply Kd.R_drewN | apply Kd.R_drew)); exact (Kd.R_mono (Kd.R_far (p := ⟨gb383, 5, none⟩) (Kd.R_far (p := ⟨gb383, 4, none⟩) (Kd.R_far (p := ⟨gb383, 3, none⟩) (Kd.R_far (p := ⟨gb383, 2, none⟩) (Kd.R_far (p := ⟨gb383, 1, none⟩) (Kd.R_far (p := ⟨gb383, 0, none⟩) (Kd.R_types HO382.out BK383.out (by decide)) (fun _ hk => hk.2) (.int .u64 t375)) (fun _ hk => hk.2) (.int .u64 t376)) (fun _ hk => hk.2) (.int .u64 t377)) (fun _ hk => hk.2) (.int .u64 t378)) (fun _ hk => hk.2) (.int .i64 t379)) (fun _ hk => hk.2) (.slice Ao65 t380.length co65)) (fun _ h_ => h_.1))) (Kd.R_base ho0) hb); replace BK358 := Kf_ BK358 NB358_383 hb; replace BK359 := Kf_ BK359 NB359_383 hb; replace BK360 := Kf_ BK360 NB360_383 hb; replace BK366 := Kf_ BK366 NB366_383 hb; replace BK374 := Kf_ BK374 NB374_383 hb; replace BK383 := Aside0.mk (blk_below (g := gb383) (o := .cells #[.int .u64 t375, .int .u64 t376, .int .u64 t377, .int .u64 t378, .int .i64 t379, .slice Ao65 t380.length co65] 43 (0, 0)) (by refine Kv_ ?_; refine blk_put (cs := #[.int .u64 t375, .int .u64 t376, .int .u64 t377, .int .u64 t378, .int .i64 t379, .slice none 0 0]) ?_ 5 _ rfl; refine Kv_ ?_; refine blk_put (cs := #[.int .u64 t375, .int .u64 t376, .int .u64 t377, .int .u64 t378, .int .i64 0, .slice none 0 0]) ?_ 4 _ rfl; refine Kv_ ?_; refine blk_put (cs := #[.int .u64 t375, .int .u64 t376, .int .u64 t377, .int .u64 0, .int .i64 0, .slice none 0 0]) ?_ 3 _ rfl; refine Kv_ ?_; refine blk_put (cs := #[.int .u64 t375, .int .u64 t376, .int .u64 0, .int .u64 0, .int .i64 0, .slice none 0 0]) ?_ 2 _ rfl; refine Kv_ ?_; refine blk_put (cs := #[.int .u64 t375, .int .u64 0, .int .u64 0, .int .u64 0, .int .i64 0, .slice none 0 0]) ?_ 1 _ rfl; refine Kv_ ?_; refine blk_put (cs := #[.int .u64 0, .int .u64 0, .int .u64 0, .int .u64 0, .int .i64 0, .slice none 0 0]) ?_ 0 _ rfl; exact Kq_ BK383) hb); replace HB := Kt_ HB GE383 hb; (try clear hb); (try clear hb2); (try clear hk); (try clear hi); (try clear ho0)) | ((with_reducible refine gate_dst (N := 11) rfl ?_); refine box_event ?hg (N := 11) ?hd (cs := #[.int .u64 0, .int .u64 0, .int .u64 0, .int .u64 0, .int .i64 0, .slice none 0 0]) (t := 43) ?hr ?_; (case hd => rfl); (case hg => rfl); (case hr => first | (go_simp; done) | (go_simp; rfl)); intro gb392 hg w68 hbox hb; have BK392 := Aside0.mk (hbox); have GW392 := Kw_ HB hg; have GE392 := GW392; have NB358_392 := Kl_ BK358 hg; have NB392_358 := Kr_ BK358 hg; have NB359_392 := Kl_ BK359 hg; have NB392_359 := Kr_ BK359 hg; have NB360_392 := Kl_ BK360 hg; have NB392_360 := Kr_ BK360 hg; have NB366_392 := Kl_ BK366 hg; have NB392_366 := Kr_ BK366 hg; have NB374_392 := Kl_ BK374 hg; have NB392_374 := Kr_ BK374 hg; have NB383_392 := Kl_ BK383 hg; have NB392_383 := Kr_ BK383 hg; replace HO369 := Aside0.mk (Kd.R_below (Ku_ HO369) hb); replace HO372 := Aside0.mk (Kd.R_below (Ku_ HO372) hb); replace HO382 := Aside0.mk (Kd.R_below (Ku_ HO382) hb); replace HO391 := Aside0.mk (Kd.R_below (Ku_ HO391) hb); replace BK358 := Kb_ BK358 hb; replace BK359 := Kb_ BK359 hb; replace BK360 := Kb_ BK360 hb; replace BK366 := Kb_ BK366 hb; replace BK374 := Kb_ BK374 hb; replace BK383 := Kb_ BK383 hb; replace HB := Ks_ HB hb; clear hb hbox hg; have hnb69 := NB392_358.out; have hnc69 := NB358_392.out; have hnb70 := NB392_359.out; have hnc70 := NB359_392.out; have hnb71 := NB392_360.out; have hnc71 := NB360_392.out; have hnb72 := NB392_366.out; have hnc72 := NB366_392.out; have hnb73 := NB392_374.out; have hnc73 := NB374_392.out; have hnb74 := NB392_383.out; have hnc74 := NB383_392.out; obtain ⟨hcz75_0, hcz75_1, hcz75_2, hcz75_3, hcz75_4, hcz75_5, hfz75_0, hfz75_1, hfz75_2, hfz75_3, hfz75_4, hfz75_5⟩ := Ke6_ BK392.out; obtain ⟨Ao76, co76, eo76⟩ := Kd.R_slice HO391.out; subst eo76; obtain ⟨hcz77_0, hcz77_1, hcz77_2, hcz77_3, hcz77_4, hcz77_5, hfz77_0, hfz77_1, hfz77_2, hfz77_3, hfz77_4, hfz77_5⟩ := Ke6_ BK383.out) | ((with_reducible refine gate_callee (f := 15) rfl ?_); refine Kg_ (some 32) rfl rfl Try.func15 (by kernel_rfl) rfl #[.agg #[.int .u64 t375, .int .u64 t376, .int .u64 t377, .int .u64 t378, .int .i64 t379, .slice Ao65 t380.length co65]] rfl ?_; (with_reducible refine (item_Bytes.calls k t375 t376 t377 t378 t379 _ _ t380 t393 t394 _ ?side1 ?side2 A11.out).mono ?_); (case side1 => refine (Kd.R_reads' (e := 23) (base := w.heap.size) (ok := fun k_ => (((True ∧ some k_ ≠ (.slice Ao46 y367.length co46 : Value).ownBlock) ∧ k_ ≠ gb366) ∧ some k_ ≠ (.slice Ao76 t389.length co76 : Value).ownBlock)) (n := t380.length) (c := co65) ?_).2.2; exact (by (with_reducible repeat (first | apply Kd.R_alloc | apply Kd.R_drewN | apply Kd.R_drew)); exact (Kd.R_mono (Kd.R_far (p := ⟨gb392, 5, none⟩) (Kd.R_far (p := ⟨gb392, 4, none⟩) (Kd.R_far (p := ⟨gb392, 3, none⟩) (Kd.R_far (p := ⟨gb392, 2, none⟩) (Kd.R_far (p := ⟨gb392, 1, none⟩) (Kd.R_far (p := ⟨gb392, 0, none⟩) (Kd.R_types HO382.out BK392.out (by decide)) (fun _ hk => hk.2) (.int .u64 t384)) (fun _ hk => hk.2) (.int .u64 t385)) (fun _ hk => hk.2) (.int .u64 t386)) (fun _ hk => hk.2) (.int .u64 t387)) (fun _ hk => hk.2) (.int .i64 t388)) (fun _ hk => hk.2) (.slice Ao76 t389.length co76)) (fun _ h_ => h_.1)))); (case side2 => exact (Kd.R_reads' HO382.out).2.1); rintro e w78 ⟨rfl, hb⟩; refine ⟨_, rfl, ?_⟩; replace HO369 := Aside0.mk (Kd.R_below (by (with_reducible repeat (first | apply Kd.R_alloc | apply Kd.R_drewN | apply Kd.R_drew)); exact (Kd.R_mono (Kd.R_far (p := ⟨gb392, 5, none⟩) (Kd.R_far (p := ⟨gb392, 4, none⟩) (Kd.R_far (p := ⟨gb392, 3, none⟩) (Kd.R_far (p := ⟨gb392, 2, none⟩) (Kd.R_far (p := ⟨gb392, 1, none⟩) (Kd.R_far (p := ⟨gb392, 0, none⟩) (Kd.R_types HO369.out BK392.out (by decide)) (fun _ hk => hk.2) (.int .u64 t384)) (fun _ hk => hk.2) (.int .u64 t385)) (fun _ hk => hk.2) (.int .u64 t386)) (fun _ hk => hk.2) (.int .u64 t387)) (fun _ hk => hk.2) (.int .i64 t388)) (fun _ hk => hk.2) (.slice Ao76 t389.length co76)) (fun _ h_ => h_.1))) hb); replace HO372 := Aside0.mk (Kd.R_below (by (with_reducible repeat (first | apply Kd.R_alloc | apply Kd.R_drewN | apply Kd.R_drew)); exact (Kd.R_mono (Kd.R_far (p := ⟨gb392, 5, none⟩) (Kd.R_far (p := ⟨gb392, 4, none⟩) (Kd.R_far (p := ⟨gb392, 3, none⟩) (Kd.R_far (p := ⟨gb392, 2, none⟩) (Kd.R_far (p := ⟨gb392, 1, none⟩) (Kd.R_far (p := ⟨gb392, 0, none⟩) (Kd.R_types HO372.out BK392.out (by decide)) (fun _ hk => hk.2) (.int .u64 t384)) (fun _ hk => hk.2) (.int .u64 t385)) (fun _ hk => hk.2) (.int .u64 t386)) (fun _ hk => hk.2) (.int .u64 t387)) (fun _ hk => hk.2) (.int .i64 t388)) (fun _ hk => hk.2) (.slice Ao76 t389.length co76)) (fun _ h_ => h_.1))) hb); replace HO382 := Aside0.mk (Kd.R_below (by (with_reducible repeat (first | apply Kd.R_alloc | apply Kd.R_drewN | apply Kd.R_drew)); exact (Kd.R_mono (Kd.R_far (p := ⟨gb392, 5, none⟩) (Kd.R_far (p := ⟨gb392, 4, none⟩) (Kd.R_far (p := ⟨gb392, 3, none⟩) (Kd.R_far (p := ⟨gb392, 2, none⟩) (Kd.R_far (p := ⟨gb392, 1, none⟩) (Kd.R_far (p := ⟨gb392, 0, none⟩) (Kd.R_types HO382.out BK392.out (by decide)) (fun _ hk => hk.2) (.int .u64 t384)) (fun _ hk => hk.2) (.int .u64 t385)) (fun _ hk => hk.2) (.int .u64 t386)) (fun _ hk => hk.2) (.int .u64 t387)) (fun _ hk => hk.2) (.int .i64 t388)) (fun _ hk => hk.2) (.slice Ao76 t389.length co76)) (fun _ h_ => h_.1))) hb); replace HO391 := Aside0.mk (Kd.R_below (by (with_reducible repeat (first | apply Kd.R_alloc | apply Kd.R_drewN | apply Kd.R_drew)); exact (Kd.R_mono (Kd.R_far (p := ⟨gb392, 5, none⟩) (Kd.R_far (p := ⟨gb392, 4, none⟩) (Kd.R_far (p := ⟨gb392, 3, none⟩) (Kd.R_far (p := ⟨gb392, 2, none⟩) (Kd.R_far (p := ⟨gb392, 1, none⟩) (Kd.R_far (p := ⟨gb392, 0, none⟩) (Kd.R_types HO391.out BK392.out (by decide)) (fun _ hk => hk.2) (.int .u64 t384)) (fun _ hk => hk.2) (.int .u64 t385)) (fun _ hk => hk.2) (.int .u64 t386)) (fun _ hk => hk.2) (.int .u64 t387)) (fun _ hk => hk.2) (.int .i64 t388)) (fun _ hk => hk.2) (.slice Ao76 t389.length co76)) (fun _ h_ => h_.1))) hb); replace BK358 := Kf_ BK358 NB358_392 hb; replace BK359 := Kf_ BK359 NB359_392 hb; replace BK360 := Kf_ BK360 NB360_392 hb; replace BK366 := Kf_ BK366 NB366_392 hb; replace BK374 := Kf_ BK374 NB374_392 hb; replace BK383 := Kf_ BK383 NB383_392 hb; replace BK392 := Aside0.mk (blk_below (g := gb392) (o := .cells #[.int .u64 t384, .int .u64 t385, .int .u64 t386, .int .u64 t387, .int .i64 t388, .slice Ao76 t389.length co76] 43 (0, 0)) (by refine Kv_ ?_; refine blk_put (cs := #[.int .u64 t384, .int .u64 t385, .int .u64 t386, .int .u64 t387, .int .i64 t388, .slice none 0 0]) ?_ 5 _ rfl; refine Kv_ ?_; refine blk_put (cs := #[.int .u64 t384, .int .u64 t385, .int .u64 t386, .int .u64 t387, .int .i64 0, .slice none 0 0]) ?_ 4 _ rfl; refine Kv_ ?_; refine blk_put (cs := #[.int .u64 t384, .int .u64 t385, .int .u64 t386, .int .u64 0, .int .i64 0, .slice none 0 0]) ?_ 3 _ rfl; refine Kv_ ?_; refine blk_put (cs := #[.int .u64 t384, .int .u64 t385, .int .u64 0, .int .u64 0, .int .i64 0, .slice none 0 0]) ?_ 2 _ rfl; refine Kv_ ?_; refine blk_put (cs := #[.int .u64 t384, .int .u64 0, .int .u64 0, .int .u64 0, .int .i64 0, .slice none 0 0]) ?_ 1 _ rfl; refine Kv_ ?_; refine blk_put (cs := #[.int .u64 0, .int .u64 0, .int .u64 0, .int .u64 0, .int .i64 0, .slice none 0 0]) ?_ 0 _ rfl; exact Kq_ BK392) hb); replace HB := Kt_ HB GE392 hb; (try clear hb); (try clear hb2); (try clear hk); (try clear hi); obtain ⟨hcz79_0, hcz79_1, hcz79_2, hcz79_3, hcz79_4, hcz79_5, hfz79_0, hfz79_1, hfz79_2, hfz79_3, hfz79_4, hfz79_5⟩ := Ke6_ BK383.out) | ((with_reducible refine gate_callee (f := 17) rfl ?_); refine Kg_ (some 37) rfl rfl Try.func17 (by kernel_rfl) rfl #[.agg #[.int .u64 t375, .int .u64 t376, .int .u64 t377, .int .u64 t378, .int .i64 t379, .slice Ao65 t380.length co65]] rfl ?_; (with_reducible refine (tenementlaw08_refTxn.calls k t375 t376 t377 t378 t379 _ _ t380 t395 t396 t397 t398 t399 t400 _ ?side1 ?side2 A12.out).mono ?_); (case side1 => repeat (first | exact (Kd.R_reads' HO382.out).2.2 | (with_reducible refine Kd.C_alloc ?_ _) | (with_reducible refine Kd.C_drewN ?_ _) | (with_reducible refine Kd.C_drew ?_))); (case side2 => exact (Kd.R_reads' HO382.out).2.1); rintro e w80 ⟨v401, rfl, ho0, hb⟩; refine ⟨_, rfl, ?_⟩; have HO402 := Aside0.mk (Kd.R_lower (Kd.R_newB (Kd.R_new' ho0 (Kd.R_lt (Ku_ HO372))) (g := gb374) (o := .cells #[.string ((rd_T38 t370 0).f0), .string ((rd_T38 t370 0).f1), .string ((rd_T38 t370 0).f2), .bool ((rd_T38 t370 0).f3)] 38 (0, 0)) (Kq_ BK374)) (below_size (by repeat (first | (with_reducible first | exact HB.out | apply below_alloc | apply pw_below_drewN | apply below_drew1 | refine below_set ?_ GE358.out | refine below_set ?_ GE359.out | refine below_set ?_ GE360.out | refine below_set ?_ GE366.out | refine below_set ?_ GE374.out | refine below_set ?_ GE383.out | refine below_set ?_ GE392.out) | exact HB.out)))); replace HO369 := Aside0.mk (Kd.R_below (Ku_ HO369) hb); replace HO372 := Aside0.mk (Kd.R_elder' (Ku_ HO372) (Kd.R_base ho0) hb); replace HO382 := Aside0.mk (Kd.R_below (Ku_ HO382) hb); replace HO391 := Aside0.mk (Kd.R_below (Ku_ HO391) hb); replace BK358 := Kb_ BK358 hb; replace BK359 := Kb_ BK359 hb; replace BK360 := Kb_ BK360 hb; replace BK366 := Kb_ BK366 hb; replace BK374 := Kb_ BK374 hb; replace BK383 := Kb_ BK383 hb; replace BK392 := Kb_ BK392 hb; replace HB := Ks_ HB hb; (try clear hb); (try clear hb2); (try clear hk); (try clear hi); (try clear ho0); obtain ⟨Ao81, co81, eo81⟩ := Kd.R_slice HO402.out; subst eo81) | ((with_reducible refine gate_callee (f := 16) rfl ?_); refine Kg_ (some 38) rfl rfl Try.func16 (by kernel_rfl) rfl #[.agg #[.int .u64 t395, .int .u64 t396, .int .u64 t397, .int .u64 t398, .int .i64 t399, .slice Ao81 t400.length co81]] rfl ?_; (with_reducible refine (tenementref08_Bytes.calls k t395 t396 t397 t398 t399 _ _ t400 t403 t394 _ ?side1 ?side2 A13.out).mono ?_); (case side1 => repeat (first | exact (Kd.R_reads' HO402.out).2.2 | (with_reducible refine Kd.C_alloc ?_ _) | (with_reducible refine Kd.C_drewN ?_ _) | (with_reducible refine Kd.C_drew ?_))); (case side2 => exact (Kd.R_reads' HO402.out).2.1); rintro e w82 ⟨rfl, hb⟩; refine ⟨_, rfl, ?_⟩; replace HO369 := Aside0.mk (Kd.R_below (Ku_ HO369) hb); replace HO372 := Aside0.mk (Kd.R_below (Ku_ HO372) hb); replace HO382 := Aside0.mk (Kd.R_below (Ku_ HO382) hb); replace HO391 := Aside0.mk (Kd.R_below (Ku_ HO391) hb); replace HO402 := Aside0.mk (Kd.R_below (Ku_ HO402) hb); replace BK358 := Kb_ BK358 hb; replace BK359 := Kb_ BK359 hb; replace BK360 := Kb_ BK360 hb; replace BK366 := Kb_ BK366 hb; replace BK374 := Kb_ BK374 hb; replace BK383 := Kb_ BK383 hb; replace BK392 := Kb_ BK392 hb; replace HB := Ks_ HB hb; (try clear hb); (try clear hb2); (try clear hk); (try clear hi)))
  replace HO369 := Aside0.mk (Kd.R_drew HO369.out)
  replace HO372 := Aside0.mk (Kd.R_drew HO372.out)
  replace HO382 := Aside0.mk (Kd.R_drew HO382.out)
  replace HO391 := Aside0.mk (Kd.R_drew HO391.out)
  replace HO402 := Aside0.mk (Kd.R_drew HO402.out)
  replace BK358 := Kd_ BK358
  replace BK359 := Kd_ BK359
  replace BK360 := Kd_ BK360
  replace BK366 := Kd_ BK366
  replace BK374 := Kd_ BK374
  replace BK383 := Kd_ BK383
  replace BK392 := Kd_ BK392
  replace HB := Aside0.mk (below_drew1 HB.out)
  refine start_ (n := 45) (S := fun w' => w'.cell? ⟨gb366, 0, none⟩ = some (.string t362) ∧ w'.cell? ⟨gb366, 1, none⟩ = some (.string t363) ∧ w'.cell? ⟨gb366, 2, none⟩ = some (.string t364) ∧ w'.cell? ⟨gb366, 3, none⟩ = some (.bool t365) ∧ w'.cell? ⟨gb374, 0, none⟩ = some (.string ((rd_T38 t370 0).f0)) ∧ w'.cell? ⟨gb374, 1, none⟩ = some (.string ((rd_T38 t370 0).f1)) ∧ w'.cell? ⟨gb374, 2, none⟩ = some (.string ((rd_T38 t370 0).f2)) ∧ w'.cell? ⟨gb374, 3, none⟩ = some (.bool ((rd_T38 t370 0).f3)) ∧ w'.cell? ⟨gb383, 0, none⟩ = some (.int .u64 t375) ∧ w'.cell? ⟨gb383, 1, none⟩ = some (.int .u64 t376) ∧ w'.cell? ⟨gb383, 2, none⟩ = some (.int .u64 t377) ∧ w'.cell? ⟨gb383, 3, none⟩ = some (.int .u64 t378) ∧ w'.cell? ⟨gb383, 4, none⟩ = some (.int .i64 t379) ∧ w'.cell? ⟨gb383, 5, none⟩ = some (.slice Ao65 t380.length co65) ∧ w'.cell? ⟨gb392, 0, none⟩ = some (.int .u64 t384) ∧ w'.cell? ⟨gb392, 1, none⟩ = some (.int .u64 t385) ∧ w'.cell? ⟨gb392, 2, none⟩ = some (.int .u64 t386) ∧ w'.cell? ⟨gb392, 3, none⟩ = some (.int .u64 t387) ∧ w'.cell? ⟨gb392, 4, none⟩ = some (.int .i64 t388) ∧ w'.cell? ⟨gb392, 5, none⟩ = some (.slice Ao76 t389.length co76)) (ds := []) #[false, false, false, false, false, false, false, false, false, false, false, false, false, false, false, false, false, false, false, false, false, false, false, false, false, false, false, false, false, false, false, false, false, false, false, false, false, false, false, false, false, false, false, false, false] (by kernel_rfl) rfl rfl ⟨(blk_cell BK366.out 0).trans rfl, (blk_cell BK366.out 1).trans rfl, (blk_cell BK366.out 2).trans rfl, (blk_cell BK366.out 3).trans rfl, (blk_cell BK374.out 0).trans rfl, (blk_cell BK374.out 1).trans rfl, (blk_cell BK374.out 2).trans rfl, (blk_cell BK374.out 3).trans rfl, (blk_cell BK383.out 0).trans rfl, (blk_cell BK383.out 1).trans rfl, (blk_cell BK383.out 2).trans rfl, (blk_cell BK383.out 3).trans rfl, (blk_cell BK383.out 4).trans rfl, (blk_cell BK383.out 5).trans rfl, (blk_cell BK392.out 0).trans rfl, (blk_cell BK392.out 1).trans rfl, (blk_cell BK392.out 2).trans rfl, (blk_cell BK392.out 3).trans rfl, (blk_cell BK392.out 4).trans rfl, (blk_cell BK392.out 5).trans rfl⟩ (fun hHeld => ?_); refine with_tabW tenementlaw08_ItemTells.tab10 tenementlaw08_ItemTells.bits10 (fun HT_ HW_ => ?_)
  generalize w82.drew = w83 at HO369 HO372 HO382 HO391 HO402 BK358 BK359 BK360 BK366 BK374 BK383 BK392 HB hHeld ⊢
  refine pure_ (i := 0) (N := some 41) (v := ?_) (a' := ?_) #[true, false, false, false, false, false, false, false, false, false, false, false, false, false, false, false, false, false, false, false, false, false, false, false, false, false, false, false, false, false, false, false, false, false, false, false, false, false, false, false, false, false, false, false, false] rfl rfl (any_of HT_.out (by kernel_rfl)) (fun _ _ _ h => h) (Or.inl ⟨by rfl, ?_⟩) ?_ ?_
  rotate_left
  · intro w'
    go_simp
    with_reducible rfl
  rotate_left
  · simp only [Act.put, List.setIfInBounds_toArray, List.set_cons_zero, List.set_cons_succ, i64_w, i32_w]
    rfl
  refine pure_ (i := 1) (N := some 42) (v := ?_) (a' := ?_) #[true, true, false, false, false, false, false, false, false, false, false, false, false, false, false, false, false, false, false, false, false, false, false, false, false, false, false, false, false, false, false, false, false, false, false, false, false, false, false, false, false, false, false, false, false] rfl rfl (any_of HT_.out (by kernel_rfl)) (fun _ _ _ h => h) (Or.inl ⟨by rfl, ?_⟩) ?_ ?_
  rotate_left
  · intro w'
    go_simp
    with_reducible rfl
  rotate_left
  · simp only [Act.put, List.setIfInBounds_toArray, List.set_cons_zero, List.set_cons_succ, i64_w, i32_w]
    rfl
  refine take_ (i := 2) (N := some 43) (v := ?_) (a' := ?_) #[true, true, true, false, false, false, false, false, false, false, false, false, false, false, false, false, false, false, false, false, false, false, false, false, false, false, false, false, false, false, false, false, false, false, false, false, false, false, false, false, false, false, false, false, false] rfl rfl (take_ofW HT_.out HW_.out (by kernel_rfl)) (fun _ _ _ h => h) (Or.inl ⟨by rfl, ?_⟩) hHeld ?_ ?_
  rotate_left
  · rintro w' ⟨s0, s1, s2, s3, s4, s5, s6, s7, s8, s9, s10, s11, s12, s13, s14, s15, s16, s17, s18, s19⟩
    go_simp
    with_reducible rfl
  rotate_left
  · simp only [Act.put, List.setIfInBounds_toArray, List.set_cons_zero, List.set_cons_succ, i64_w, i32_w]
    rfl
  refine take_ (i := 4) (N := some 45) (v := ?_) (a' := ?_) #[true, true, true, false, true, false, false, false, false, false, false, false, false, false, false, false, false, false, false, false, false, false, false, false, false, false, false, false, false, false, false, false, false, false, false, false, false, false, false, false, false, false, false, false, false] rfl rfl (take_ofW HT_.out HW_.out (by kernel_rfl)) (fun _ _ _ h => h) (Or.inl ⟨by rfl, ?_⟩) hHeld ?_ ?_
  rotate_left
  · rintro w' ⟨s0, s1, s2, s3, s4, s5, s6, s7, s8, s9, s10, s11, s12, s13, s14, s15, s16, s17, s18, s19⟩
    go_simp
    with_reducible rfl
  rotate_left
  · simp only [Act.put, List.setIfInBounds_toArray, List.set_cons_zero, List.set_cons_succ, i64_w, i32_w]
    rfl
  refine one_ (i := 3) (N := some 44) #[true, true, true, true, true, false, false, false, false, false, false, false, false, false, false, false, false, false, false, false, false, false, false, false, false, false, false, false, false, false, false, false, false, false, false, false, false, false, false, false, false, false, false, false, false] rfl rfl (one_of HT_.out (by kernel_rfl)) (by decide) (fun K hK => ?_)
  refine goes_ Try.func18 (by kernel_rfl) rfl #[.agg #[.string t362, .string t363, .string t364, .bool t365]] (by rfl) rfl rfl (by (try simp only [List.map_toArray, List.map_cons, List.map_nil]); first | done | rfl | (simp only [List.length_drop, List.length_take]; rfl)) ?_
  with_reducible refine (item_Right.calls t362 t363 t364 t365 t405 _ A14.out).mono ?_
  rintro e w84 ⟨rfl, hb⟩
  refine ⟨_, rfl, ?_⟩
  replace HO369 := Aside0.mk (Kd.R_below (Ku_ HO369) hb)
  replace HO372 := Aside0.mk (Kd.R_below (Ku_ HO372) hb)
  replace HO382 := Aside0.mk (Kd.R_below (Ku_ HO382) hb)
  replace HO391 := Aside0.mk (Kd.R_below (Ku_ HO391) hb)
  replace HO402 := Aside0.mk (Kd.R_below (Ku_ HO402) hb)
  replace BK358 := Kb_ BK358 hb
  replace BK359 := Kb_ BK359 hb
  replace BK360 := Kb_ BK360 hb
  replace BK366 := Kb_ BK366 hb
  replace BK374 := Kb_ BK374 hb
  replace BK383 := Kb_ BK383 hb
  replace BK392 := Kb_ BK392 hb
  replace HB := Ks_ HB hb
  (try clear hb)
  (try clear hb2)
  (try clear hk)
  (try clear hi)
  refine hK.out _ _ ⟨(blk_cell BK366.out 0).trans rfl, (blk_cell BK366.out 1).trans rfl, (blk_cell BK366.out 2).trans rfl, (blk_cell BK366.out 3).trans rfl, (blk_cell BK374.out 0).trans rfl, (blk_cell BK374.out 1).trans rfl, (blk_cell BK374.out 2).trans rfl, (blk_cell BK374.out 3).trans rfl, (blk_cell BK383.out 0).trans rfl, (blk_cell BK383.out 1).trans rfl, (blk_cell BK383.out 2).trans rfl, (blk_cell BK383.out 3).trans rfl, (blk_cell BK383.out 4).trans rfl, (blk_cell BK383.out 5).trans rfl, (blk_cell BK392.out 0).trans rfl, (blk_cell BK392.out 1).trans rfl, (blk_cell BK392.out 2).trans rfl, (blk_cell BK392.out 3).trans rfl, (blk_cell BK392.out 4).trans rfl, (blk_cell BK392.out 5).trans rfl⟩ (fun hHeld => ?_)
  clear hK K
  refine norm_ (a' := ?_) ?_ ?_
  rotate_left
  · show Act.put _ (some 44) _ = _
    simp only [Act.put, List.setIfInBounds_toArray, List.set_cons_zero, List.set_cons_succ, i64_w, i32_w]
    rfl
  refine one_ (i := 5) (N := some 46) #[true, true, true, true, true, true, false, false, false, false, false, false, false, false, false, false, false, false, false, false, false, false, false, false, false, false, false, false, false, false, false, false, false, false, false, false, false, false, false, false, false, false, false, false, false] rfl rfl (one_of HT_.out (by kernel_rfl)) (by decide) (fun K hK => ?_)
  refine goes_ Try.func19 (by kernel_rfl) rfl #[.agg #[.string ((rd_T38 t370 0).f0), .string ((rd_T38 t370 0).f1), .string ((rd_T38 t370 0).f2), .bool ((rd_T38 t370 0).f3)]] (by rfl) rfl rfl (by (try simp only [List.map_toArray, List.map_cons, List.map_nil]); first | done | rfl | (simp only [List.length_drop, List.length_take]; rfl)) ?_
  with_reducible refine (tenementref08_Right.calls ((rd_T38 t370 0).f0) ((rd_T38 t370 0).f1) ((rd_T38 t370 0).f2) ((rd_T38 t370 0).f3) t405 _ A15.out).mono ?_
  rintro e w85 ⟨rfl, hb⟩
  refine ⟨_, rfl, ?_⟩
  replace HO369 := Aside0.mk (Kd.R_below (Ku_ HO369) hb)
  replace HO372 := Aside0.mk (Kd.R_below (Ku_ HO372) hb)
  replace HO382 := Aside0.mk (Kd.R_below (Ku_ HO382) hb)
  replace HO391 := Aside0.mk (Kd.R_below (Ku_ HO391) hb)
  replace HO402 := Aside0.mk (Kd.R_below (Ku_ HO402) hb)
  replace BK358 := Kb_ BK358 hb
  replace BK359 := Kb_ BK359 hb
  replace BK360 := Kb_ BK360 hb
  replace BK366 := Kb_ BK366 hb
  replace BK374 := Kb_ BK374 hb
  replace BK383 := Kb_ BK383 hb
  replace BK392 := Kb_ BK392 hb
  replace HB := Ks_ HB hb
  (try clear hb)
  (try clear hb2)
  (try clear hk)
  (try clear hi)
  refine hK.out _ _ ⟨(blk_cell BK366.out 0).trans rfl, (blk_cell BK366.out 1).trans rfl, (blk_cell BK366.out 2).trans rfl, (blk_cell BK366.out 3).trans rfl, (blk_cell BK374.out 0).trans rfl, (blk_cell BK374.out 1).trans rfl, (blk_cell BK374.out 2).trans rfl, (blk_cell BK374.out 3).trans rfl, (blk_cell BK383.out 0).trans rfl, (blk_cell BK383.out 1).trans rfl, (blk_cell BK383.out 2).trans rfl, (blk_cell BK383.out 3).trans rfl, (blk_cell BK383.out 4).trans rfl, (blk_cell BK383.out 5).trans rfl, (blk_cell BK392.out 0).trans rfl, (blk_cell BK392.out 1).trans rfl, (blk_cell BK392.out 2).trans rfl, (blk_cell BK392.out 3).trans rfl, (blk_cell BK392.out 4).trans rfl, (blk_cell BK392.out 5).trans rfl⟩ (fun hHeld => ?_)
  clear hK K
  refine norm_ (a' := ?_) ?_ ?_
  rotate_left
  · show Act.put _ (some 46) _ = _
    simp only [Act.put, List.setIfInBounds_toArray, List.set_cons_zero, List.set_cons_succ, i64_w, i32_w]
    rfl
  refine pure_ (i := 6) (N := some 47) (v := ?_) (a' := ?_) #[true, true, true, true, true, true, true, false, false, false, false, false, false, false, false, false, false, false, false, false, false, false, false, false, false, false, false, false, false, false, false, false, false, false, false, false, false, false, false, false, false, false, false, false, false] rfl rfl (any_of HT_.out (by kernel_rfl)) (fun _ _ _ h => h) (Or.inl ⟨by rfl, ?_⟩) ?_ ?_
  rotate_left
  · intro w'
    go_simp
    with_reducible rfl
  rotate_left
  · simp only [Act.put, List.setIfInBounds_toArray, List.set_cons_zero, List.set_cons_succ, i64_w, i32_w]
    rfl
  refine pure_ (i := 7) (N := some 48) (v := ?_) (a' := ?_) #[true, true, true, true, true, true, true, true, false, false, false, false, false, false, false, false, false, false, false, false, false, false, false, false, false, false, false, false, false, false, false, false, false, false, false, false, false, false, false, false, false, false, false, false, false] rfl rfl (any_of HT_.out (by kernel_rfl)) (fun _ _ _ h => h) (Or.inl ⟨by rfl, ?_⟩) ?_ ?_
  rotate_left
  · intro w'
    go_simp
    with_reducible rfl
  rotate_left
  · simp only [Act.put, List.setIfInBounds_toArray, List.set_cons_zero, List.set_cons_succ, i64_w, i32_w]
    rfl
  refine pure_ (i := 8) (N := some 49) (v := ?_) (a' := ?_) #[true, true, true, true, true, true, true, true, true, false, false, false, false, false, false, false, false, false, false, false, false, false, false, false, false, false, false, false, false, false, false, false, false, false, false, false, false, false, false, false, false, false, false, false, false] rfl rfl (any_of HT_.out (by kernel_rfl)) (fun _ _ _ h => h) (Or.inl ⟨by rfl, ?_⟩) ?_ ?_
  rotate_left
  · intro w'
    go_simp
    with_reducible rfl
  rotate_left
  · simp only [Act.put, List.setIfInBounds_toArray, List.set_cons_zero, List.set_cons_succ, i64_w, i32_w]
    rfl
  refine take_ (i := 9) (N := some 50) (v := ?_) (a' := ?_) #[true, true, true, true, true, true, true, true, true, true, false, false, false, false, false, false, false, false, false, false, false, false, false, false, false, false, false, false, false, false, false, false, false, false, false, false, false, false, false, false, false, false, false, false, false] rfl rfl (take_ofW HT_.out HW_.out (by kernel_rfl)) (fun _ _ _ h => h) (Or.inl ⟨by rfl, ?_⟩) hHeld ?_ ?_
  rotate_left
  · rintro w' ⟨s0, s1, s2, s3, s4, s5, s6, s7, s8, s9, s10, s11, s12, s13, s14, s15, s16, s17, s18, s19⟩
    go_simp
    with_reducible rfl
  rotate_left
  · simp only [Act.put, List.setIfInBounds_toArray, List.set_cons_zero, List.set_cons_succ, i64_w, i32_w]
    rfl
  refine take_ (i := 11) (N := some 52) (v := ?_) (a' := ?_) #[true, true, true, true, true, true, true, true, true, true, false, true, false, false, false, false, false, false, false, false, false, false, false, false, false, false, false, false, false, false, false, false, false, false, false, false, false, false, false, false, false, false, false, false, false] rfl rfl (take_ofW HT_.out HW_.out (by kernel_rfl)) (fun _ _ _ h => h) (Or.inl ⟨by rfl, ?_⟩) hHeld ?_ ?_
  rotate_left
  · rintro w' ⟨s0, s1, s2, s3, s4, s5, s6, s7, s8, s9, s10, s11, s12, s13, s14, s15, s16, s17, s18, s19⟩
    go_simp
    with_reducible rfl
  rotate_left
  · simp only [Act.put, List.setIfInBounds_toArray, List.set_cons_zero, List.set_cons_succ, i64_w, i32_w]
    rfl
  refine one_ (i := 10) (N := some 51) #[true, true, true, true, true, true, true, true, true, true, true, true, false, false, false, false, false, false, false, false, false, false, false, false, false, false, false, false, false, false, false, false, false, false, false, false, false, false, false, false, false, false, false, false, false] rfl rfl (one_of HT_.out (by kernel_rfl)) (by decide) (fun K hK => ?_)
  refine goes_ Try.func20 (by kernel_rfl) rfl #[.agg #[.string t362, .string t363, .string t364, .bool t365]] (by rfl) rfl rfl (by (try simp only [List.map_toArray, List.map_cons, List.map_nil]); first | done | rfl | (simp only [List.length_drop, List.length_take]; rfl)) ?_
  with_reducible refine (item_Size.calls t362 t363 t364 t365 t407 _ A17.out).mono ?_
  rintro e w86 ⟨rfl, hb⟩
  refine ⟨_, rfl, ?_⟩
  replace HO369 := Aside0.mk (Kd.R_below (Ku_ HO369) hb)
  replace HO372 := Aside0.mk (Kd.R_below (Ku_ HO372) hb)
  replace HO382 := Aside0.mk (Kd.R_below (Ku_ HO382) hb)
  replace HO391 := Aside0.mk (Kd.R_below (Ku_ HO391) hb)
  replace HO402 := Aside0.mk (Kd.R_below (Ku_ HO402) hb)
  replace BK358 := Kb_ BK358 hb
  replace BK359 := Kb_ BK359 hb
  replace BK360 := Kb_ BK360 hb
  replace BK366 := Kb_ BK366 hb
  replace BK374 := Kb_ BK374 hb
  replace BK383 := Kb_ BK383 hb
  replace BK392 := Kb_ BK392 hb
  replace HB := Ks_ HB hb
  (try clear hb)
  (try clear hb2)
  (try clear hk)
  (try clear hi)
  refine hK.out _ _ ⟨(blk_cell BK366.out 0).trans rfl, (blk_cell BK366.out 1).trans rfl, (blk_cell BK366.out 2).trans rfl, (blk_cell BK366.out 3).trans rfl, (blk_cell BK374.out 0).trans rfl, (blk_cell BK374.out 1).trans rfl, (blk_cell BK374.out 2).trans rfl, (blk_cell BK374.out 3).trans rfl, (blk_cell BK383.out 0).trans rfl, (blk_cell BK383.out 1).trans rfl, (blk_cell BK383.out 2).trans rfl, (blk_cell BK383.out 3).trans rfl, (blk_cell BK383.out 4).trans rfl, (blk_cell BK383.out 5).trans rfl, (blk_cell BK392.out 0).trans rfl, (blk_cell BK392.out 1).trans rfl, (blk_cell BK392.out 2).trans rfl, (blk_cell BK392.out 3).trans rfl, (blk_cell BK392.out 4).trans rfl, (blk_cell BK392.out 5).trans rfl⟩ (fun hHeld => ?_)
  clear hK K
  refine norm_ (a' := ?_) ?_ ?_
  rotate_left
  · show Act.put _ (some 51) _ = _
    simp only [Act.put, List.setIfInBounds_toArray, List.set_cons_zero, List.set_cons_succ, i64_w, i32_w]
    rfl
  refine one_ (i := 12) (N := some 53) #[true, true, true, true, true, true, true, true, true, true, true, true, true, false, false, false, false, false, false, false, false, false, false, false, false, false, false, false, false, false, false, false, false, false, false, false, false, false, false, false, false, false, false, false, false] rfl rfl (one_of HT_.out (by kernel_rfl)) (by decide) (fun K hK => ?_)
  refine goes_ Try.func21 (by kernel_rfl) rfl #[.agg #[.string ((rd_T38 t370 0).f0), .string ((rd_T38 t370 0).f1), .string ((rd_T38 t370 0).f2), .bool ((rd_T38 t370 0).f3)]] (by rfl) rfl rfl (by (try simp only [List.map_toArray, List.map_cons, List.map_nil]); first | done | rfl | (simp only [List.length_drop, List.length_take]; rfl)) ?_
  with_reducible refine (tenementref08_Size.calls ((rd_T38 t370 0).f0) ((rd_T38 t370 0).f1) ((rd_T38 t370 0).f2) ((rd_T38 t370 0).f3) t408 _ A18.out).mono ?_
  rintro e w87 ⟨rfl, hb⟩
  refine ⟨_, rfl, ?_⟩
  replace HO369 := Aside0.mk (Kd.R_below (Ku_ HO369) hb)
  replace HO372 := Aside0.mk (Kd.R_below (Ku_ HO372) hb)
  replace HO382 := Aside0.mk (Kd.R_below (Ku_ HO382) hb)
  replace HO391 := Aside0.mk (Kd.R_below (Ku_ HO391) hb)
  replace HO402 := Aside0.mk (Kd.R_below (Ku_ HO402) hb)
  replace BK358 := Kb_ BK358 hb
  replace BK359 := Kb_ BK359 hb
  replace BK360 := Kb_ BK360 hb
  replace BK366 := Kb_ BK366 hb
  replace BK374 := Kb_ BK374 hb
  replace BK383 := Kb_ BK383 hb
  replace BK392 := Kb_ BK392 hb
  replace HB := Ks_ HB hb
  (try clear hb)
  (try clear hb2)
  (try clear hk)
  (try clear hi)
  refine hK.out _ _ ⟨(blk_cell BK366.out 0).trans rfl, (blk_cell BK366.out 1).trans rfl, (blk_cell BK366.out 2).trans rfl, (blk_cell BK366.out 3).trans rfl, (blk_cell BK374.out 0).trans rfl, (blk_cell BK374.out 1).trans rfl, (blk_cell BK374.out 2).trans rfl, (blk_cell BK374.out 3).trans rfl, (blk_cell BK383.out 0).trans rfl, (blk_cell BK383.out 1).trans rfl, (blk_cell BK383.out 2).trans rfl, (blk_cell BK383.out 3).trans rfl, (blk_cell BK383.out 4).trans rfl, (blk_cell BK383.out 5).trans rfl, (blk_cell BK392.out 0).trans rfl, (blk_cell BK392.out 1).trans rfl, (blk_cell BK392.out 2).trans rfl, (blk_cell BK392.out 3).trans rfl, (blk_cell BK392.out 4).trans rfl, (blk_cell BK392.out 5).trans rfl⟩ (fun hHeld => ?_)
  clear hK K
  refine norm_ (a' := ?_) ?_ ?_
  rotate_left
  · show Act.put _ (some 53) _ = _
    simp only [Act.put, List.setIfInBounds_toArray, List.set_cons_zero, List.set_cons_succ, i64_w, i32_w]
    rfl
  refine pure_ (i := 13) (N := some 54) (v := ?_) (a' := ?_) #[true, true, true, true, true, true, true, true, true, true, true, true, true, true, false, false, false, false, false, false, false, false, false, false, false, false, false, false, false, false, false, false, false, false, false, false, false, false, false, false, false, false, false, false, false] rfl rfl (any_of HT_.out (by kernel_rfl)) (fun _ _ _ h => h) (Or.inl ⟨by rfl, ?_⟩) ?_ ?_
  rotate_left
  · intro w'
    go_simp
    with_reducible rfl
  rotate_left
  · simp only [Act.put, List.setIfInBounds_toArray, List.set_cons_zero, List.set_cons_succ, i64_w, i32_w]
    rfl
  refine pure_ (i := 14) (N := some 55) (v := ?_) (a' := ?_) #[true, true, true, true, true, true, true, true, true, true, true, true, true, true, true, false, false, false, false, false, false, false, false, false, false, false, false, false, false, false, false, false, false, false, false, false, false, false, false, false, false, false, false, false, false] rfl rfl (any_of HT_.out (by kernel_rfl)) (fun _ _ _ h => h) (Or.inl ⟨by rfl, ?_⟩) ?_ ?_
  rotate_left
  · intro w'
    go_simp
    with_reducible rfl
  rotate_left
  · simp only [Act.put, List.setIfInBounds_toArray, List.set_cons_zero, List.set_cons_succ, i64_w, i32_w]
    rfl
  refine pure_ (i := 15) (N := some 56) (v := ?_) (a' := ?_) #[true, true, true, true, true, true, true, true, true, true, true, true, true, true, true, true, false, false, false, false, false, false, false, false, false, false, false, false, false, false, false, false, false, false, false, false, false, false, false, false, false, false, false, false, false] rfl rfl (any_of HT_.out (by kernel_rfl)) (fun _ _ _ h => h) (Or.inl ⟨by rfl, ?_⟩) ?_ ?_
  rotate_left
  · intro w'
    go_simp
    with_reducible rfl
  rotate_left
  · simp only [Act.put, List.setIfInBounds_toArray, List.set_cons_zero, List.set_cons_succ, i64_w, i32_w]
    rfl
  refine take_ (i := 16) (N := some 57) (v := ?_) (a' := ?_) #[true, true, true, true, true, true, true, true, true, true, true, true, true, true, true, true, true, false, false, false, false, false, false, false, false, false, false, false, false, false, false, false, false, false, false, false, false, false, false, false, false, false, false, false, false] rfl rfl (take_ofW HT_.out HW_.out (by kernel_rfl)) (fun _ _ _ h => h) (Or.inl ⟨by rfl, ?_⟩) hHeld ?_ ?_
  rotate_left
  · rintro w' ⟨s0, s1, s2, s3, s4, s5, s6, s7, s8, s9, s10, s11, s12, s13, s14, s15, s16, s17, s18, s19⟩
    go_simp
    with_reducible rfl
  rotate_left
  · simp only [Act.put, List.setIfInBounds_toArray, List.set_cons_zero, List.set_cons_succ, i64_w, i32_w]
    rfl
  refine take_ (i := 18) (N := some 59) (v := ?_) (a' := ?_) #[true, true, true, true, true, true, true, true, true, true, true, true, true, true, true, true, true, false, true, false, false, false, false, false, false, false, false, false, false, false, false, false, false, false, false, false, false, false, false, false, false, false, false, false, false] rfl rfl (take_ofW HT_.out HW_.out (by kernel_rfl)) (fun _ _ _ h => h) (Or.inl ⟨by rfl, ?_⟩) hHeld ?_ ?_
  rotate_left
  · rintro w' ⟨s0, s1, s2, s3, s4, s5, s6, s7, s8, s9, s10, s11, s12, s13, s14, s15, s16, s17, s18, s19⟩
    go_simp
    with_reducible rfl
  rotate_left
  · simp only [Act.put, List.setIfInBounds_toArray, List.set_cons_zero, List.set_cons_succ, i64_w, i32_w]
    rfl
  refine one_ (i := 17) (N := some 58) #[true, true, true, true, true, true, true, true, true, true, true, true, true, true, true, true, true, true, true, false, false, false, false, false, false, false, false, false, false, false, false, false, false, false, false, false, false, false, false, false, false, false, false, false, false] rfl rfl (one_of HT_.out (by kernel_rfl)) (by decide) (fun K hK => ?_)
  refine goes_ Try.func22 (by kernel_rfl) rfl #[.agg #[.int .u64 t375, .int .u64 t376, .int .u64 t377, .int .u64 t378, .int .i64 t379, .slice Ao65 t380.length co65]] (by rfl) rfl rfl (by (try simp only [List.map_toArray, List.map_cons, List.map_nil]); first | done | rfl | (simp only [List.length_drop, List.length_take]; rfl)) ?_
  with_reducible refine (item_Whole.calls t375 t376 t377 t378 t379 _ _ t380 t409 _ ?side1 ?side2 A20.out).mono ?_
  (case side1 => repeat (first | exact (Kd.R_reads' HO382.out).2.2 | (with_reducible refine Kd.C_alloc ?_ _) | (with_reducible refine Kd.C_drewN ?_ _) | (with_reducible refine Kd.C_drew ?_)))
  (case side2 => exact (Kd.R_reads' HO382.out).2.1)
  rintro e w88 ⟨rfl, hb⟩
  refine ⟨_, rfl, ?_⟩
  replace HO369 := Aside0.mk (Kd.R_below (Ku_ HO369) hb)
  replace HO372 := Aside0.mk (Kd.R_below (Ku_ HO372) hb)
  replace HO382 := Aside0.mk (Kd.R_below (Ku_ HO382) hb)
  replace HO391 := Aside0.mk (Kd.R_below (Ku_ HO391) hb)
  replace HO402 := Aside0.mk (Kd.R_below (Ku_ HO402) hb)
  replace BK358 := Kb_ BK358 hb
  replace BK359 := Kb_ BK359 hb
  replace BK360 := Kb_ BK360 hb
  replace BK366 := Kb_ BK366 hb
  replace BK374 := Kb_ BK374 hb
  replace BK383 := Kb_ BK383 hb
  replace BK392 := Kb_ BK392 hb
  replace HB := Ks_ HB hb
  (try clear hb)
  (try clear hb2)
  (try clear hk)
  (try clear hi)
  refine hK.out _ _ ⟨(blk_cell BK366.out 0).trans rfl, (blk_cell BK366.out 1).trans rfl, (blk_cell BK366.out 2).trans rfl, (blk_cell BK366.out 3).trans rfl, (blk_cell BK374.out 0).trans rfl, (blk_cell BK374.out 1).trans rfl, (blk_cell BK374.out 2).trans rfl, (blk_cell BK374.out 3).trans rfl, (blk_cell BK383.out 0).trans rfl, (blk_cell BK383.out 1).trans rfl, (blk_cell BK383.out 2).trans rfl, (blk_cell BK383.out 3).trans rfl, (blk_cell BK383.out 4).trans rfl, (blk_cell BK383.out 5).trans rfl, (blk_cell BK392.out 0).trans rfl, (blk_cell BK392.out 1).trans rfl, (blk_cell BK392.out 2).trans rfl, (blk_cell BK392.out 3).trans rfl, (blk_cell BK392.out 4).trans rfl, (blk_cell BK392.out 5).trans rfl⟩ (fun hHeld => ?_)
  clear hK K
  refine norm_ (a' := ?_) ?_ ?_
  rotate_left
  · show Act.put _ (some 58) _ = _
    simp only [Act.put, List.setIfInBounds_toArray, List.set_cons_zero, List.set_cons_succ, i64_w, i32_w]
    rfl
  refine one_ (i := 19) (N := some 60) #[true, true, true, true, true, true, true, true, true, true, true, true, true, true, true, true, true, true, true, true, false, false, false, false, false, false, false, false, false, false, false, false, false, false, false, false, false, false, false, false, false, false, false, false, false] rfl rfl (one_of HT_.out (by kernel_rfl)) (by decide) (fun K hK => ?_)
  refine goes_ Try.func17 (by kernel_rfl) rfl #[.agg #[.int .u64 t375, .int .u64 t376, .int .u64 t377, .int .u64 t378, .int .i64 t379, .slice Ao65 t380.length co65]] (by rfl) rfl rfl (by (try simp only [List.map_toArray, List.map_cons, List.map_nil]); first | done | rfl | (simp only [List.length_drop, List.length_take]; rfl)) ?_
  with_reducible refine (tenementlaw08_refTxn.calls k t375 t376 t377 t378 t379 _ _ t380 t410 t411 t412 t413 t414 t415 _ ?side1 ?side2 A21.out).mono ?_
  (case side1 => repeat (first | exact (Kd.R_reads' HO382.out).2.2 | (with_reducible refine Kd.C_alloc ?_ _) | (with_reducible refine Kd.C_drewN ?_ _) | (with_reducible refine Kd.C_drew ?_)))
  (case side2 => exact (Kd.R_reads' HO382.out).2.1)
  rintro e w89 ⟨v416, rfl, ho0, hb⟩
  refine ⟨_, rfl, ?_⟩
  have HO417 := Aside0.mk (Kd.R_lower (Kd.R_newB (Kd.R_new' (Kd.R_new' ho0 (Kd.R_lt (Ku_ HO372))) (Kd.R_lt (Ku_ HO402))) (g := gb374) (o := .cells #[.string ((rd_T38 t370 0).f0), .string ((rd_T38 t370 0).f1), .string ((rd_T38 t370 0).f2), .bool ((rd_T38 t370 0).f3)] 38 (0, 0)) (Kq_ BK374)) (below_size (by repeat (first | (with_reducible first | exact HB.out | apply below_alloc | apply pw_below_drewN | apply below_drew1 | refine below_set ?_ GE358.out | refine below_set ?_ GE359.out | refine below_set ?_ GE360.out | refine below_set ?_ GE366.out | refine below_set ?_ GE374.out | refine below_set ?_ GE383.out | refine below_set ?_ GE392.out) | exact HB.out))))
  replace HO369 := Aside0.mk (Kd.R_below (Ku_ HO369) hb)
  replace HO372 := Aside0.mk (Kd.R_elder' (Ku_ HO372) (Kd.R_base ho0) hb)
  replace HO382 := Aside0.mk (Kd.R_below (Ku_ HO382) hb)
  replace HO391 := Aside0.mk (Kd.R_below (Ku_ HO391) hb)
  replace HO402 := Aside0.mk (Kd.R_elder' (Ku_ HO402) (Kd.R_base ho0) hb)
  replace BK358 := Kb_ BK358 hb
  replace BK359 := Kb_ BK359 hb
  replace BK360 := Kb_ BK360 hb
  replace BK366 := Kb_ BK366 hb
  replace BK374 := Kb_ BK374 hb
  replace BK383 := Kb_ BK383 hb
  replace BK392 := Kb_ BK392 hb
  replace HB := Ks_ HB hb
  (try clear hb)
  (try clear hb2)
  (try clear hk)
  (try clear hi)
  (try clear ho0)
  obtain ⟨Ao90, co90, eo90⟩ := Kd.R_slice HO417.out
  (first | subst eo90 | (injection eo90 with f1_ f2_ f3_; have f4_ := f1_.symm; have f5_ := f3_.symm; clear f1_ f2_ f3_; subst f4_; subst f5_))
  refine hK.out _ _ ⟨(blk_cell BK366.out 0).trans rfl, (blk_cell BK366.out 1).trans rfl, (blk_cell BK366.out 2).trans rfl, (blk_cell BK366.out 3).trans rfl, (blk_cell BK374.out 0).trans rfl, (blk_cell BK374.out 1).trans rfl, (blk_cell BK374.out 2).trans rfl, (blk_cell BK374.out 3).trans rfl, (blk_cell BK383.out 0).trans rfl, (blk_cell BK383.out 1).trans rfl, (blk_cell BK383.out 2).trans rfl, (blk_cell BK383.out 3).trans rfl, (blk_cell BK383.out 4).trans rfl, (blk_cell BK383.out 5).trans rfl, (blk_cell BK392.out 0).trans rfl, (blk_cell BK392.out 1).trans rfl, (blk_cell BK392.out 2).trans rfl, (blk_cell BK392.out 3).trans rfl, (blk_cell BK392.out 4).trans rfl, (blk_cell BK392.out 5).trans rfl⟩ (fun hHeld => ?_)
  clear hK K
  refine norm_ (a' := ?_) ?_ ?_
  rotate_left
  · show Act.put _ (some 60) _ = _
    simp only [Act.put, List.setIfInBounds_toArray, List.set_cons_zero, List.set_cons_succ, i64_w, i32_w]
    rfl
  refine one_ (i := 20) (N := some 61) #[true, true, true, true, true, true, true, true, true, true, true, true, true, true, true, true, true, true, true, true, true, false, false, false, false, false, false, false, false, false, false, false, false, false, false, false, false, false, false, false, false, false, false, false, false] rfl rfl (one_of HT_.out (by kernel_rfl)) (by decide) (fun K hK => ?_)
  refine goes_ Try.func23 (by kernel_rfl) rfl #[.agg #[.int .u64 t410, .int .u64 t411, .int .u64 t412, .int .u64 t413, .int .i64 t414, .slice Ao90 t415.length co90]] (by rfl) rfl rfl (by (try simp only [List.map_toArray, List.map_cons, List.map_nil]); first | done | rfl | (simp only [List.length_drop, List.length_take]; rfl)) ?_
  with_reducible refine (tenementref08_Whole.calls k t410 t411 t412 t413 t414 _ _ t415 t409 _ ?side1 ?side2 A22.out).mono ?_
  (case side1 => repeat (first | exact (Kd.R_reads' HO417.out).2.2 | (with_reducible refine Kd.C_alloc ?_ _) | (with_reducible refine Kd.C_drewN ?_ _) | (with_reducible refine Kd.C_drew ?_)))
  (case side2 => exact (Kd.R_reads' HO417.out).2.1)
  rintro e w91 ⟨rfl, hb⟩
  refine ⟨_, rfl, ?_⟩
  replace HO369 := Aside0.mk (Kd.R_below (Ku_ HO369) hb)
  replace HO372 := Aside0.mk (Kd.R_below (Ku_ HO372) hb)
  replace HO382 := Aside0.mk (Kd.R_below (Ku_ HO382) hb)
  replace HO391 := Aside0.mk (Kd.R_below (Ku_ HO391) hb)
  replace HO402 := Aside0.mk (Kd.R_below (Ku_ HO402) hb)
  replace HO417 := Aside0.mk (Kd.R_below (Ku_ HO417) hb)
  replace BK358 := Kb_ BK358 hb
  replace BK359 := Kb_ BK359 hb
  replace BK360 := Kb_ BK360 hb
  replace BK366 := Kb_ BK366 hb
  replace BK374 := Kb_ BK374 hb
  replace BK383 := Kb_ BK383 hb
  replace BK392 := Kb_ BK392 hb
  replace HB := Ks_ HB hb
  (try clear hb)
  (try clear hb2)
  (try clear hk)
  (try clear hi)
  refine hK.out _ _ ⟨(blk_cell BK366.out 0).trans rfl, (blk_cell BK366.out 1).trans rfl, (blk_cell BK366.out 2).trans rfl, (blk_cell BK366.out 3).trans rfl, (blk_cell BK374.out 0).trans rfl, (blk_cell BK374.out 1).trans rfl, (blk_cell BK374.out 2).trans rfl, (blk_cell BK374.out 3).trans rfl, (blk_cell BK383.out 0).trans rfl, (blk_cell BK383.out 1).trans rfl, (blk_cell BK383.out 2).trans rfl, (blk_cell BK383.out 3).trans rfl, (blk_cell BK383.out 4).trans rfl, (blk_cell BK383.out 5).trans rfl, (blk_cell BK392.out 0).trans rfl, (blk_cell BK392.out 1).trans rfl, (blk_cell BK392.out 2).trans rfl, (blk_cell BK392.out 3).trans rfl, (blk_cell BK392.out 4).trans rfl, (blk_cell BK392.out 5).trans rfl⟩ (fun hHeld => ?_)
  clear hK K
  refine norm_ (a' := ?_) ?_ ?_
  rotate_left
  · show Act.put _ (some 61) _ = _
    simp only [Act.put, List.setIfInBounds_toArray, List.set_cons_zero, List.set_cons_succ, i64_w, i32_w]
    rfl
  refine pure_ (i := 21) (N := some 62) (v := ?_) (a' := ?_) #[true, true, true, true, true, true, true, true, true, true, true, true, true, true, true, true, true, true, true, true, true, true, false, false, false, false, false, false, false, false, false, false, false, false, false, false, false, false, false, false, false, false, false, false, false] rfl rfl (any_of HT_.out (by kernel_rfl)) (fun _ _ _ h => h) (Or.inl ⟨by rfl, ?_⟩) ?_ ?_
  rotate_left
  · intro w'
    go_simp
    with_reducible rfl
  rotate_left
  · simp only [Act.put, List.setIfInBounds_toArray, List.set_cons_zero, List.set_cons_succ, i64_w, i32_w]
    rfl
  refine pure_ (i := 22) (N := some 63) (v := ?_) (a' := ?_) #[true, true, true, true, true, true, true, true, true, true, true, true, true, true, true, true, true, true, true, true, true, true, true, false, false, false, false, false, false, false, false, false, false, false, false, false, false, false, false, false, false, false, false, false, false] rfl rfl (any_of HT_.out (by kernel_rfl)) (fun _ _ _ h => h) (Or.inl ⟨by rfl, ?_⟩) ?_ ?_
  rotate_left
  · intro w'
    go_simp
    with_reducible rfl
  rotate_left
  · simp only [Act.put, List.setIfInBounds_toArray, List.set_cons_zero, List.set_cons_succ, i64_w, i32_w]
    rfl
  refine pure_ (i := 23) (N := some 64) (v := ?_) (a' := ?_) #[true, true, true, true, true, true, true, true, true, true, true, true, true, true, true, true, true, true, true, true, true, true, true, true, false, false, false, false, false, false, false, false, false, false, false, false, false, false, false, false, false, false, false, false, false] rfl rfl (any_of HT_.out (by kernel_rfl)) (fun _ _ _ h => h) (Or.inl ⟨by rfl, ?_⟩) ?_ ?_
  rotate_left
  · intro w'
    go_simp
    with_reducible rfl
  rotate_left
  · simp only [Act.put, List.setIfInBounds_toArray, List.set_cons_zero, List.set_cons_succ, i64_w, i32_w]
    rfl
  refine pure_ (i := 24) (N := some 65) (v := ?_) (a' := ?_) #[true, true, true, true, true, true, true, true, true, true, true, true, true, true, true, true, true, true, true, true, true, true, true, true, true, false, false, false, false, false, false, false, false, false, false, false, false, false, false, false, false, false, false, false, false] rfl rfl (any_of HT_.out (by kernel_rfl)) (fun _ _ _ h => h) (Or.inl ⟨by rfl, ?_⟩) ?_ ?_
  rotate_left
  · intro w'
    go_simp
    with_reducible rfl
  rotate_left
  · simp only [Act.put, List.setIfInBounds_toArray, List.set_cons_zero, List.set_cons_succ, i64_w, i32_w]
    rfl
  refine pure_ (i := 25) (N := some 66) (v := ?_) (a' := ?_) #[true, true, true, true, true, true, true, true, true, true, true, true, true, true, true, true, true, true, true, true, true, true, true, true, true, true, false, false, false, false, false, false, false, false, false, false, false, false, false, false, false, false, false, false, false] rfl rfl (any_of HT_.out (by kernel_rfl)) (fun _ _ _ h => h) (Or.inl ⟨by rfl, ?_⟩) ?_ ?_
  rotate_left
  · intro w'
    go_simp
    with_reducible rfl
  rotate_left
  · simp only [Act.put, List.setIfInBounds_toArray, List.set_cons_zero, List.set_cons_succ, i64_w, i32_w]
    rfl
  refine pure_ (i := 26) (N := some 67) (v := ?_) (a' := ?_) #[true, true, true, true, true, true, true, true, true, true, true, true, true, true, true, true, true, true, true, true, true, true, true, true, true, true, true, false, false, false, false, false, false, false, false, false, false, false, false, false, false, false, false, false, false] rfl rfl (any_of HT_.out (by kernel_rfl)) (fun _ _ _ h => h) (Or.inl ⟨by rfl, ?_⟩) ?_ ?_
  rotate_left
  · intro w'
    go_simp
    with_reducible rfl
  rotate_left
  · simp only [Act.put, List.setIfInBounds_toArray, List.set_cons_zero, List.set_cons_succ, i64_w, i32_w]
    rfl
  refine pure_ (i := 27) (N := some 68) (v := ?_) (a' := ?_) #[true, true, true, true, true, true, true, true, true, true, true, true, true, true, true, true, true, true, true, true, true, true, true, true, true, true, true, true, false, false, false, false, false, false, false, false, false, false, false, false, false, false, false, false, false] rfl rfl (any_of HT_.out (by kernel_rfl)) (fun _ _ _ h => h) (Or.inl ⟨by rfl, ?_⟩) ?_ ?_
  rotate_left
  · intro w'
    go_simp
    with_reducible rfl
  rotate_left
  · simp only [Act.put, List.setIfInBounds_toArray, List.set_cons_zero, List.set_cons_succ, i64_w, i32_w]
    rfl
  refine pure_ (i := 28) (N := some 69) (v := ?_) (a' := ?_) #[true, true, true, true, true, true, true, true, true, true, true, true, true, true, true, true, true, true, true, true, true, true, true, true, true, true, true, true, true, false, false, false, false, false, false, false, false, false, false, false, false, false, false, false, false] rfl rfl (any_of HT_.out (by kernel_rfl)) (fun _ _ _ h => h) (Or.inl ⟨by rfl, ?_⟩) ?_ ?_
  rotate_left
  · intro w'
    go_simp
    with_reducible rfl
  rotate_left
  · simp only [Act.put, List.setIfInBounds_toArray, List.set_cons_zero, List.set_cons_succ, i64_w, i32_w]
    rfl
  refine pure_ (i := 29) (N := some 70) (v := ?_) (a' := ?_) #[true, true, true, true, true, true, true, true, true, true, true, true, true, true, true, true, true, true, true, true, true, true, true, true, true, true, true, true, true, true, false, false, false, false, false, false, false, false, false, false, false, false, false, false, false] rfl rfl (any_of HT_.out (by kernel_rfl)) (fun _ _ _ h => h) (Or.inl ⟨by rfl, ?_⟩) ?_ ?_
  rotate_left
  · intro w'
    go_simp
    with_reducible rfl
  rotate_left
  · simp only [Act.put, List.setIfInBounds_toArray, List.set_cons_zero, List.set_cons_succ, i64_w, i32_w]
    rfl
  refine pure_ (i := 30) (N := some 71) (v := ?_) (a' := ?_) #[true, true, true, true, true, true, true, true, true, true, true, true, true, true, true, true, true, true, true, true, true, true, true, true, true, true, true, true, true, true, true, false, false, false, false, false, false, false, false, false, false, false, false, false, false] rfl rfl (any_of HT_.out (by kernel_rfl)) (fun _ _ _ h => h) (Or.inl ⟨by rfl, ?_⟩) ?_ ?_
  rotate_left
  · intro w'
    go_simp
    with_reducible rfl
  rotate_left
  · simp only [Act.put, List.setIfInBounds_toArray, List.set_cons_zero, List.set_cons_succ, i64_w, i32_w]
    rfl
  refine pure_ (i := 31) (N := some 72) (v := ?_) (a' := ?_) #[true, true, true, true, true, true, true, true, true, true, true, true, true, true, true, true, true, true, true, true, true, true, true, true, true, true, true, true, true, true, true, true, false, false, false, false, false, false, false, false, false, false, false, false, false] rfl rfl (any_of HT_.out (by kernel_rfl)) (fun _ _ _ h => h) (Or.inl ⟨by rfl, ?_⟩) ?_ ?_
  rotate_left
  · intro w'
    go_simp
    with_reducible rfl
  rotate_left
  · simp only [Act.put, List.setIfInBounds_toArray, List.set_cons_zero, List.set_cons_succ, i64_w, i32_w]
    rfl
  refine pure_ (i := 32) (N := some 73) (v := ?_) (a' := ?_) #[true, true, true, true, true, true, true, true, true, true, true, true, true, true, true, true, true, true, true, true, true, true, true, true, true, true, true, true, true, true, true, true, true, false, false, false, false, false, false, false, false, false, false, false, false] rfl rfl (any_of HT_.out (by kernel_rfl)) (fun _ _ _ h => h) (Or.inl ⟨by rfl, ?_⟩) ?_ ?_
  rotate_left
  · intro w'
    go_simp
    with_reducible rfl
  rotate_left
  · simp only [Act.put, List.setIfInBounds_toArray, List.set_cons_zero, List.set_cons_succ, i64_w, i32_w]
    rfl
  refine pure_ (i := 33) (N := some 74) (v := ?_) (a' := ?_) #[true, true, true, true, true, true, true, true, true, true, true, true, true, true, true, true, true, true, true, true, true, true, true, true, true, true, true, true, true, true, true, true, true, true, false, false, false, false, false, false, false, false, false, false, false] rfl rfl (any_of HT_.out (by kernel_rfl)) (fun _ _ _ h => h) (Or.inl ⟨by rfl, ?_⟩) ?_ ?_
  rotate_left
  · intro w'
    go_simp
    with_reducible rfl
  rotate_left
  · simp only [Act.put, List.setIfInBounds_toArray, List.set_cons_zero, List.set_cons_succ, i64_w, i32_w]
    rfl
  refine take_ (i := 34) (N := some 75) (v := ?_) (a' := ?_) #[true, true, true, true, true, true, true, true, true, true, true, true, true, true, true, true, true, true, true, true, true, true, true, true, true, true, true, true, true, true, true, true, true, true, true, false, false, false, false, false, false, false, false, false, false] rfl rfl (take_ofW HT_.out HW_.out (by kernel_rfl)) (fun _ _ _ h => h) (Or.inl ⟨by rfl, ?_⟩) hHeld ?_ ?_
  rotate_left
  · rintro w' ⟨s0, s1, s2, s3, s4, s5, s6, s7, s8, s9, s10, s11, s12, s13, s14, s15, s16, s17, s18, s19⟩
    go_simp
    with_reducible rfl
  rotate_left
  · simp only [Act.put, List.setIfInBounds_toArray, List.set_cons_zero, List.set_cons_succ, i64_w, i32_w]
    rfl
  refine take_ (i := 35) (N := some 76) (v := ?_) (a' := ?_) #[true, true, true, true, true, true, true, true, true, true, true, true, true, true, true, true, true, true, true, true, true, true, true, true, true, true, true, true, true, true, true, true, true, true, true, true, false, false, false, false, false, false, false, false, false] rfl rfl (take_ofW HT_.out HW_.out (by kernel_rfl)) (fun _ _ _ h => h) (Or.inl ⟨by rfl, ?_⟩) hHeld ?_ ?_
  rotate_left
  · rintro w' ⟨s0, s1, s2, s3, s4, s5, s6, s7, s8, s9, s10, s11, s12, s13, s14, s15, s16, s17, s18, s19⟩
    go_simp
    with_reducible rfl
  rotate_left
  · simp only [Act.put, List.setIfInBounds_toArray, List.set_cons_zero, List.set_cons_succ, i64_w, i32_w]
    rfl
  refine take_ (i := 37) (N := some 78) (v := ?_) (a' := ?_) #[true, true, true, true, true, true, true, true, true, true, true, true, true, true, true, true, true, true, true, true, true, true, true, true, true, true, true, true, true, true, true, true, true, true, true, true, false, true, false, false, false, false, false, false, false] rfl rfl (take_ofW HT_.out HW_.out (by kernel_rfl)) (fun _ _ _ h => h) (Or.inl ⟨by rfl, ?_⟩) hHeld ?_ ?_
  rotate_left
  · rintro w' ⟨s0, s1, s2, s3, s4, s5, s6, s7, s8, s9, s10, s11, s12, s13, s14, s15, s16, s17, s18, s19⟩
    go_simp
    with_reducible rfl
  rotate_left
  · simp only [Act.put, List.setIfInBounds_toArray, List.set_cons_zero, List.set_cons_succ, i64_w, i32_w]
    rfl
  refine take_ (i := 39) (N := some 80) (v := ?_) (a' := ?_) #[true, true, true, true, true, true, true, true, true, true, true, true, true, true, true, true, true, true, true, true, true, true, true, true, true, true, true, true, true, true, true, true, true, true, true, true, false, true, false, true, false, false, false, false, false] rfl rfl (take_ofW HT_.out HW_.out (by kernel_rfl)) (fun _ _ _ h => h) (Or.inl ⟨by rfl, ?_⟩) hHeld ?_ ?_
  rotate_left
  · rintro w' ⟨s0, s1, s2, s3, s4, s5, s6, s7, s8, s9, s10, s11, s12, s13, s14, s15, s16, s17, s18, s19⟩
    go_simp
    with_reducible rfl
  rotate_left
  · simp only [Act.put, List.setIfInBounds_toArray, List.set_cons_zero, List.set_cons_succ, i64_w, i32_w]
    rfl
  refine one_ (i := 36) (N := some 77) #[true, true, true, true, true, true, true, true, true, true, true, true, true, true, true, true, true, true, true, true, true, true, true, true, true, true, true, true, true, true, true, true, true, true, true, true, true, true, false, true, false, false, false, false, false] rfl rfl (one_of HT_.out (by kernel_rfl)) (by decide) (fun K hK => ?_)
  refine goes_ Try.func24 (by kernel_rfl) rfl #[.agg #[.int .u64 t375, .int .u64 t376, .int .u64 t377, .int .u64 t378, .int .i64 t379, .slice Ao65 t380.length co65], .agg #[.int .u64 t384, .int .u64 t385, .int .u64 t386, .int .u64 t387, .int .i64 t388, .slice Ao76 t389.length co76]] (by rfl) rfl rfl (by (try simp only [List.map_toArray, List.map_cons, List.map_nil]); first | done | rfl | (simp only [List.length_drop, List.length_take]; rfl)) ?_
  with_reducible refine (item_Same.calls k t375 t376 t377 t378 t379 _ _ t380 t384 t385 t386 t387 t388 _ _ t389 t419 _ ?side1 ?side2 ?side3 ?side4 A26.out).mono ?_
  (case side1 => repeat (first | exact (Kd.R_reads' HO382.out).2.2 | (with_reducible refine Kd.C_alloc ?_ _) | (with_reducible refine Kd.C_drewN ?_ _) | (with_reducible refine Kd.C_drew ?_)))
  (case side2 => exact (Kd.R_reads' HO382.out).2.1)
  (case side3 => repeat (first | exact (Kd.R_reads' HO391.out).2.2 | (with_reducible refine Kd.C_alloc ?_ _) | (with_reducible refine Kd.C_drewN ?_ _) | (with_reducible refine Kd.C_drew ?_)))
  (case side4 => exact (Kd.R_reads' HO391.out).2.1)
  rintro e w92 ⟨rfl, hb⟩
  refine ⟨_, rfl, ?_⟩
  replace HO369 := Aside0.mk (Kd.R_below (Ku_ HO369) hb)
  replace HO372 := Aside0.mk (Kd.R_below (Ku_ HO372) hb)
  replace HO382 := Aside0.mk (Kd.R_below (Ku_ HO382) hb)
  replace HO391 := Aside0.mk (Kd.R_below (Ku_ HO391) hb)
  replace HO402 := Aside0.mk (Kd.R_below (Ku_ HO402) hb)
  replace HO417 := Aside0.mk (Kd.R_below (Ku_ HO417) hb)
  replace BK358 := Kb_ BK358 hb
  replace BK359 := Kb_ BK359 hb
  replace BK360 := Kb_ BK360 hb
  replace BK366 := Kb_ BK366 hb
  replace BK374 := Kb_ BK374 hb
  replace BK383 := Kb_ BK383 hb
  replace BK392 := Kb_ BK392 hb
  replace HB := Ks_ HB hb
  (try clear hb)
  (try clear hb2)
  (try clear hk)
  (try clear hi)
  refine hK.out _ _ ⟨(blk_cell BK366.out 0).trans rfl, (blk_cell BK366.out 1).trans rfl, (blk_cell BK366.out 2).trans rfl, (blk_cell BK366.out 3).trans rfl, (blk_cell BK374.out 0).trans rfl, (blk_cell BK374.out 1).trans rfl, (blk_cell BK374.out 2).trans rfl, (blk_cell BK374.out 3).trans rfl, (blk_cell BK383.out 0).trans rfl, (blk_cell BK383.out 1).trans rfl, (blk_cell BK383.out 2).trans rfl, (blk_cell BK383.out 3).trans rfl, (blk_cell BK383.out 4).trans rfl, (blk_cell BK383.out 5).trans rfl, (blk_cell BK392.out 0).trans rfl, (blk_cell BK392.out 1).trans rfl, (blk_cell BK392.out 2).trans rfl, (blk_cell BK392.out 3).trans rfl, (blk_cell BK392.out 4).trans rfl, (blk_cell BK392.out 5).trans rfl⟩ (fun hHeld => ?_)
  clear hK K
  refine norm_ (a' := ?_) ?_ ?_
  rotate_left
  · show Act.put _ (some 77) _ = _
    simp only [Act.put, List.setIfInBounds_toArray, List.set_cons_zero, List.set_cons_succ, i64_w, i32_w]
    rfl
  refine one_ (i := 38) (N := some 79) #[true, true, true, true, true, true, true, true, true, true, true, true, true, true, true, true, true, true, true, true, true, true, true, true, true, true, true, true, true, true, true, true, true, true, true, true, true, true, true, true, false, false, false, false, false] rfl rfl (one_of HT_.out (by kernel_rfl)) (by decide) (fun K hK => ?_)
  refine goes_ Try.func17 (by kernel_rfl) rfl #[.agg #[.int .u64 t375, .int .u64 t376, .int .u64 t377, .int .u64 t378, .int .i64 t379, .slice Ao65 t380.length co65]] (by rfl) rfl rfl (by (try simp only [List.map_toArray, List.map_cons, List.map_nil]); first | done | rfl | (simp only [List.length_drop, List.length_take]; rfl)) ?_
  with_reducible refine (tenementlaw08_refTxn.calls k t375 t376 t377 t378 t379 _ _ t380 t420 t421 t422 t423 t424 t425 _ ?side1 ?side2 A27.out).mono ?_
  (case side1 => repeat (first | exact (Kd.R_reads' HO382.out).2.2 | (with_reducible refine Kd.C_alloc ?_ _) | (with_reducible refine Kd.C_drewN ?_ _) | (with_reducible refine Kd.C_drew ?_)))
  (case side2 => exact (Kd.R_reads' HO382.out).2.1)
  rintro e w93 ⟨v426, rfl, ho0, hb⟩
  refine ⟨_, rfl, ?_⟩
  have HO427 := Aside0.mk (Kd.R_lower (Kd.R_newB (Kd.R_new' (Kd.R_new' (Kd.R_new' ho0 (Kd.R_lt (Ku_ HO372))) (Kd.R_lt (Ku_ HO402))) (Kd.R_lt (Ku_ HO417))) (g := gb374) (o := .cells #[.string ((rd_T38 t370 0).f0), .string ((rd_T38 t370 0).f1), .string ((rd_T38 t370 0).f2), .bool ((rd_T38 t370 0).f3)] 38 (0, 0)) (Kq_ BK374)) (below_size (by repeat (first | (with_reducible first | exact HB.out | apply below_alloc | apply pw_below_drewN | apply below_drew1 | refine below_set ?_ GE358.out | refine below_set ?_ GE359.out | refine below_set ?_ GE360.out | refine below_set ?_ GE366.out | refine below_set ?_ GE374.out | refine below_set ?_ GE383.out | refine below_set ?_ GE392.out) | exact HB.out))))
  replace HO369 := Aside0.mk (Kd.R_below (Ku_ HO369) hb)
  replace HO372 := Aside0.mk (Kd.R_elder' (Ku_ HO372) (Kd.R_base ho0) hb)
  replace HO382 := Aside0.mk (Kd.R_below (Ku_ HO382) hb)
  replace HO391 := Aside0.mk (Kd.R_below (Ku_ HO391) hb)
  replace HO402 := Aside0.mk (Kd.R_elder' (Ku_ HO402) (Kd.R_base ho0) hb)
  replace HO417 := Aside0.mk (Kd.R_elder' (Ku_ HO417) (Kd.R_base ho0) hb)
  replace BK358 := Kb_ BK358 hb
  replace BK359 := Kb_ BK359 hb
  replace BK360 := Kb_ BK360 hb
  replace BK366 := Kb_ BK366 hb
  replace BK374 := Kb_ BK374 hb
  replace BK383 := Kb_ BK383 hb
  replace BK392 := Kb_ BK392 hb
  replace HB := Ks_ HB hb
  (try clear hb)
  (try clear hb2)
  (try clear hk)
  (try clear hi)
  (try clear ho0)
  refine hK.out _ _ ⟨(blk_cell BK366.out 0).trans rfl, (blk_cell BK366.out 1).trans rfl, (blk_cell BK366.out 2).trans rfl, (blk_cell BK366.out 3).trans rfl, (blk_cell BK374.out 0).trans rfl, (blk_cell BK374.out 1).trans rfl, (blk_cell BK374.out 2).trans rfl, (blk_cell BK374.out 3).trans rfl, (blk_cell BK383.out 0).trans rfl, (blk_cell BK383.out 1).trans rfl, (blk_cell BK383.out 2).trans rfl, (blk_cell BK383.out 3).trans rfl, (blk_cell BK383.out 4).trans rfl, (blk_cell BK383.out 5).trans rfl, (blk_cell BK392.out 0).trans rfl, (blk_cell BK392.out 1).trans rfl, (blk_cell BK392.out 2).trans rfl, (blk_cell BK392.out 3).trans rfl, (blk_cell BK392.out 4).trans rfl, (blk_cell BK392.out 5).trans rfl⟩ (fun hHeld => ?_)
  clear hK K
  refine norm_ (a' := ?_) ?_ ?_
  rotate_left
  · show Act.put _ (some 79) _ = _
    simp only [Act.put, List.setIfInBounds_toArray, List.set_cons_zero, List.set_cons_succ, i64_w, i32_w]
    rfl
  refine one_ (i := 40) (N := some 81) #[true, true, true, true, true, true, true, true, true, true, true, true, true, true, true, true, true, true, true, true, true, true, true, true, true, true, true, true, true, true, true, true, true, true, true, true, true, true, true, true, true, false, false, false, false] rfl rfl (one_of HT_.out (by kernel_rfl)) (by decide) (fun K hK => ?_)
  refine goes_ Try.func17 (by kernel_rfl) rfl #[.agg #[.int .u64 t384, .int .u64 t385, .int .u64 t386, .int .u64 t387, .int .i64 t388, .slice Ao76 t389.length co76]] (by rfl) rfl rfl (by (try simp only [List.map_toArray, List.map_cons, List.map_nil]); first | done | rfl | (simp only [List.length_drop, List.length_take]; rfl)) ?_
  with_reducible refine (tenementlaw08_refTxn.calls k t384 t385 t386 t387 t388 _ _ t389 t428 t429 t430 t431 t432 t433 _ ?side1 ?side2 A28.out).mono ?_
  (case side1 => repeat (first | exact (Kd.R_reads' HO391.out).2.2 | (with_reducible refine Kd.C_alloc ?_ _) | (with_reducible refine Kd.C_drewN ?_ _) | (with_reducible refine Kd.C_drew ?_)))
  (case side2 => exact (Kd.R_reads' HO391.out).2.1)
  rintro e w94 ⟨v434, rfl, ho0, hb⟩
  refine ⟨_, rfl, ?_⟩
  have HO435 := Aside0.mk (Kd.R_lower (Kd.R_newB (Kd.R_new' (Kd.R_new' (Kd.R_new' (Kd.R_new' ho0 (Kd.R_lt (Ku_ HO372))) (Kd.R_lt (Ku_ HO402))) (Kd.R_lt (Ku_ HO417))) (Kd.R_lt (Ku_ HO427))) (g := gb374) (o := .cells #[.string ((rd_T38 t370 0).f0), .string ((rd_T38 t370 0).f1), .string ((rd_T38 t370 0).f2), .bool ((rd_T38 t370 0).f3)] 38 (0, 0)) (Kq_ BK374)) (below_size (by repeat (first | (with_reducible first | exact HB.out | apply below_alloc | apply pw_below_drewN | apply below_drew1 | refine below_set ?_ GE358.out | refine below_set ?_ GE359.out | refine below_set ?_ GE360.out | refine below_set ?_ GE366.out | refine below_set ?_ GE374.out | refine below_set ?_ GE383.out | refine below_set ?_ GE392.out) | exact HB.out))))
  replace HO369 := Aside0.mk (Kd.R_below (Ku_ HO369) hb)
  replace HO372 := Aside0.mk (Kd.R_elder' (Ku_ HO372) (Kd.R_base ho0) hb)
  replace HO382 := Aside0.mk (Kd.R_below (Ku_ HO382) hb)
  replace HO391 := Aside0.mk (Kd.R_below (Ku_ HO391) hb)
  replace HO402 := Aside0.mk (Kd.R_elder' (Ku_ HO402) (Kd.R_base ho0) hb)
  replace HO417 := Aside0.mk (Kd.R_elder' (Ku_ HO417) (Kd.R_base ho0) hb)
  replace HO427 := Aside0.mk (Kd.R_elder' (Ku_ HO427) (Kd.R_base ho0) hb)
  replace BK358 := Kb_ BK358 hb
  replace BK359 := Kb_ BK359 hb
  replace BK360 := Kb_ BK360 hb
  replace BK366 := Kb_ BK366 hb
  replace BK374 := Kb_ BK374 hb
  replace BK383 := Kb_ BK383 hb
  replace BK392 := Kb_ BK392 hb
  replace HB := Ks_ HB hb
  (try clear hb)
  (try clear hb2)
  (try clear hk)
  (try clear hi)
  (try clear ho0)
  obtain ⟨Ao95, co95, eo95⟩ := Kd.R_slice HO427.out
  (first | subst eo95 | (injection eo95 with f1_ f2_ f3_; have f4_ := f1_.symm; have f5_ := f3_.symm; clear f1_ f2_ f3_; subst f4_; subst f5_))
  obtain ⟨Ao96, co96, eo96⟩ := Kd.R_slice HO435.out
  (first | subst eo96 | (injection eo96 with f1_ f2_ f3_; have f4_ := f1_.symm; have f5_ := f3_.symm; clear f1_ f2_ f3_; subst f4_; subst f5_))
  refine hK.out _ _ ⟨(blk_cell BK366.out 0).trans rfl, (blk_cell BK366.out 1).trans rfl, (blk_cell BK366.out 2).trans rfl, (blk_cell BK366.out 3).trans rfl, (blk_cell BK374.out 0).trans rfl, (blk_cell BK374.out 1).trans rfl, (blk_cell BK374.out 2).trans rfl, (blk_cell BK374.out 3).trans rfl, (blk_cell BK383.out 0).trans rfl, (blk_cell BK383.out 1).trans rfl, (blk_cell BK383.out 2).trans rfl, (blk_cell BK383.out 3).trans rfl, (blk_cell BK383.out 4).trans rfl, (blk_cell BK383.out 5).trans rfl, (blk_cell BK392.out 0).trans rfl, (blk_cell BK392.out 1).trans rfl, (blk_cell BK392.out 2).trans rfl, (blk_cell BK392.out 3).trans rfl, (blk_cell BK392.out 4).trans rfl, (blk_cell BK392.out 5).trans rfl⟩ (fun hHeld => ?_)
  clear hK K
  refine norm_ (a' := ?_) ?_ ?_
  rotate_left
  · show Act.put _ (some 81) _ = _
    simp only [Act.put, List.setIfInBounds_toArray, List.set_cons_zero, List.set_cons_succ, i64_w, i32_w]
    rfl
  refine one_ (i := 41) (N := some 82) #[true, true, true, true, true, true, true, true, true, true, true, true, true, true, true, true, true, true, true, true, true, true, true, true, true, true, true, true, true, true, true, true, true, true, true, true, true, true, true, true, true, true, false, false, false] rfl rfl (one_of HT_.out (by kernel_rfl)) (by decide) (fun K hK => ?_)
  refine goes_ Try.func25 (by kernel_rfl) rfl #[.agg #[.int .u64 t420, .int .u64 t421, .int .u64 t422, .int .u64 t423, .int .i64 t424, .slice Ao95 t425.length co95], .agg #[.int .u64 t428, .int .u64 t429, .int .u64 t430, .int .u64 t431, .int .i64 t432, .slice Ao96 t433.length co96]] (by rfl) rfl rfl (by (try simp only [List.map_toArray, List.map_cons, List.map_nil]); first | done | rfl | (simp only [List.length_drop, List.length_take]; rfl)) ?_
  with_reducible refine (tenementref08_Same.calls k t420 t421 t422 t423 t424 _ _ t425 t428 t429 t430 t431 t432 _ _ t433 t419 _ ?side1 ?side2 ?side3 ?side4 A29.out).mono ?_
  (case side1 => repeat (first | exact (Kd.R_reads' HO427.out).2.2 | (with_reducible refine Kd.C_alloc ?_ _) | (with_reducible refine Kd.C_drewN ?_ _) | (with_reducible refine Kd.C_drew ?_)))
  (case side2 => exact (Kd.R_reads' HO427.out).2.1)
  (case side3 => repeat (first | exact (Kd.R_reads' HO435.out).2.2 | (with_reducible refine Kd.C_alloc ?_ _) | (with_reducible refine Kd.C_drewN ?_ _) | (with_reducible refine Kd.C_drew ?_)))
  (case side4 => exact (Kd.R_reads' HO435.out).2.1)
  rintro e w97 ⟨rfl, hb⟩
  refine ⟨_, rfl, ?_⟩
  replace HO369 := Aside0.mk (Kd.R_below (Ku_ HO369) hb)
  replace HO372 := Aside0.mk (Kd.R_below (Ku_ HO372) hb)
  replace HO382 := Aside0.mk (Kd.R_below (Ku_ HO382) hb)
  replace HO391 := Aside0.mk (Kd.R_below (Ku_ HO391) hb)
  replace HO402 := Aside0.mk (Kd.R_below (Ku_ HO402) hb)
  replace HO417 := Aside0.mk (Kd.R_below (Ku_ HO417) hb)
  replace HO427 := Aside0.mk (Kd.R_below (Ku_ HO427) hb)
  replace HO435 := Aside0.mk (Kd.R_below (Ku_ HO435) hb)
  replace BK358 := Kb_ BK358 hb
  replace BK359 := Kb_ BK359 hb
  replace BK360 := Kb_ BK360 hb
  replace BK366 := Kb_ BK366 hb
  replace BK374 := Kb_ BK374 hb
  replace BK383 := Kb_ BK383 hb
  replace BK392 := Kb_ BK392 hb
  replace HB := Ks_ HB hb
  (try clear hb)
  (try clear hb2)
  (try clear hk)
  (try clear hi)
  refine hK.out _ _ ⟨(blk_cell BK366.out 0).trans rfl, (blk_cell BK366.out 1).trans rfl, (blk_cell BK366.out 2).trans rfl, (blk_cell BK366.out 3).trans rfl, (blk_cell BK374.out 0).trans rfl, (blk_cell BK374.out 1).trans rfl, (blk_cell BK374.out 2).trans rfl, (blk_cell BK374.out 3).trans rfl, (blk_cell BK383.out 0).trans rfl, (blk_cell BK383.out 1).trans rfl, (blk_cell BK383.out 2).trans rfl, (blk_cell BK383.out 3).trans rfl, (blk_cell BK383.out 4).trans rfl, (blk_cell BK383.out 5).trans rfl, (blk_cell BK392.out 0).trans rfl, (blk_cell BK392.out 1).trans rfl, (blk_cell BK392.out 2).trans rfl, (blk_cell BK392.out 3).trans rfl, (blk_cell BK392.out 4).trans rfl, (blk_cell BK392.out 5).trans rfl⟩ (fun hHeld => ?_)
  clear hK K
  refine norm_ (a' := ?_) ?_ ?_
  rotate_left
  · show Act.put _ (some 82) _ = _
    simp only [Act.put, List.setIfInBounds_toArray, List.set_cons_zero, List.set_cons_succ, i64_w, i32_w]
    rfl
  refine pure_ (i := 42) (N := some 83) (v := ?_) (a' := ?_) #[true, true, true, true, true, true, true, true, true, true, true, true, true, true, true, true, true, true, true, true, true, true, true, true, true, true, true, true, true, true, true, true, true, true, true, true, true, true, true, true, true, true, true, false, false] rfl rfl (any_of HT_.out (by kernel_rfl)) (fun _ _ _ h => h) (Or.inl ⟨by rfl, ?_⟩) ?_ ?_
  rotate_left
  · intro w'
    go_simp
    with_reducible rfl
  rotate_left
  · simp only [Act.put, List.setIfInBounds_toArray, List.set_cons_zero, List.set_cons_succ, i64_w, i32_w]
    rfl
  refine pure_ (i := 43) (N := some 84) (v := ?_) (a' := ?_) #[true, true, true, true, true, true, true, true, true, true, true, true, true, true, true, true, true, true, true, true, true, true, true, true, true, true, true, true, true, true, true, true, true, true, true, true, true, true, true, true, true, true, true, true, false] rfl rfl (any_of HT_.out (by kernel_rfl)) (fun _ _ _ h => h) (Or.inl ⟨by rfl, ?_⟩) ?_ ?_
  rotate_left
  · intro w'
    go_simp
    with_reducible rfl
  rotate_left
  · simp only [Act.put, List.setIfInBounds_toArray, List.set_cons_zero, List.set_cons_succ, i64_w, i32_w]
    rfl
  refine pure_ (i := 44) (N := some 6) (v := ?_) (a' := ?_) #[true, true, true, true, true, true, true, true, true, true, true, true, true, true, true, true, true, true, true, true, true, true, true, true, true, true, true, true, true, true, true, true, true, true, true, true, true, true, true, true, true, true, true, true, true] rfl rfl (any_of HT_.out (by kernel_rfl)) (fun _ _ _ h => h) (Or.inl ⟨by rfl, ?_⟩) ?_ ?_
  rotate_left
  · intro w'
    go_simp
    with_reducible rfl
  rotate_left
  · simp only [Act.put, List.setIfInBounds_toArray, List.set_cons_zero, List.set_cons_succ, i64_w, i32_w]
    rfl
  refine done_ (done_of HT_.out (by kernel_rfl)) ?_
  try go_wp2
  go_ret
  exact ⟨Kh_, by repeat (first | (with_reducible first | exact HB.out | apply below_alloc | apply pw_below_drewN | apply below_drew1 | refine below_set ?_ GE358.out | refine below_set ?_ GE359.out | refine below_set ?_ GE360.out | refine below_set ?_ GE366.out | refine below_set ?_ GE374.out | refine below_set ?_ GE383.out | refine below_set ?_ GE392.out) | exact HB.out)⟩
end Go.Proofs.Ytoogchgoiciggaa.Q
