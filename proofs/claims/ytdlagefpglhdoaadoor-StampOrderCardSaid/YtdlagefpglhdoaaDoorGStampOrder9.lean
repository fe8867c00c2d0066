import Derived.Test.YtdlagefpglhdoaaDoorQx0
import Derived.Test.YtdlagefpglhdoaaDoorGStampOrder0
import Derived.Test.YtdlagefpglhdoaaDoorGStampOrder1
import Derived.Test.YtdlagefpglhdoaaDoorGStampOrder5
import Derived.Test.YtdlagefpglhdoaaDoorGStampOrder7
-- Written by this session's own driver (wip/hybrid.py) of the kit's printer; contracts marked FOREIGN are by hand.
namespace Go.Proofs.YtdlagefpglhdoaaDoor.Q
open Go.RowKit Go.Proofs.YtdlagefpglhdoaaDoorW.PrintWords Go.Proofs.YtdlagefpglhdoaaDoorW.PrintLast Go.Proofs.YtdlagefpglhdoaaDoorW.PrintMore
attribute [local go_sem] max2_int min2_int max_two min_two max_three min_three max_four min_four   -- for this text's walks alone
set_option linter.unusedVariables false
set_option linter.unusedSimpArgs false

attribute [local go_sem] ixA24_0 ixA24_1 ixA24_2 ixA24_3   -- for this text's walks alone
attribute [local go_sem high] eqA24 eqA26
/-! ### tenementlaw07_StampOrder: function 5 -/
mutual
def tenementlaw07_StampOrder.j0 : Nat → Bool → Int → Bool → Int → Int → Int → Int → Int → Int → Int → Int → Int → Int → Int → Int → Int → Int → Int → Option (Bool)
  | 0, _, _, _, _, _, _, _, _, _, _, _, _, _, _, _, _, _, _ => none
  | k + 1, x7, x11, x12, x483000, x483001, x483002, x483003, x483004, x489000, x489001, x489002, x489003, x489004, x495000, x495001, x495002, x495003, x495004 => (stamp_Seen.f x483000 x483001 x483002 x483003 x483004 x489000 x489001 x489002 x489003).bind fun t498 => (if t498 = true then (tenementlaw07_StampOrder.j1 k x7 x11 x12 (!(x483000 == x489000) || (!(x483001 == x489001) || (!(x483002 == x489002) || (!(x483003 == x489003))))) x483000 x483001 x483002 x483003 x483004 x489000 x489001 x489002 x489003 x489004 x495000 x495001 x495002 x495003 x495004) else (tenementlaw07_StampOrder.j1 k x7 x11 x12 false x483000 x483001 x483002 x483003 x483004 x489000 x489001 x489002 x489003 x489004 x495000 x495001 x495002 x495003 x495004))
def tenementlaw07_StampOrder.j1 : Nat → Bool → Int → Bool → Bool → Int → Int → Int → Int → Int → Int → Int → Int → Int → Int → Int → Int → Int → Int → Int → Option (Bool)
  | 0, _, _, _, _, _, _, _, _, _, _, _, _, _, _, _, _, _, _, _ => none
  | k + 1, x7, x11, x12, x13, x483000, x483001, x483002, x483003, x483004, x489000, x489001, x489002, x489003, x489004, x495000, x495001, x495002, x495003, x495004 => if x7 = true then ((stamp_Order.f k x489000 x489001 x489002 x489003 x489004 x483000 x483001 x483002 x483003 x483004).bind fun t499 => (if x11 = (wrap64 (-t499)) then (if x11 = 0 then (if ((x483000 == x489000 && (x483001 == x489001 && (x483002 == x489002 && (x483003 == x489003)))) && (x483004 == x489004)) = true then (if x12 = true then (none) else (if x13 = true then (if x11 < 0 then ((stamp_Later.f k x489000 x489001 x489002 x489003 x489004 x495000 x495001 x495002 x495003 x495004).bind fun bt500 => ((stamp_Later.f k x483000 x483001 x483002 x483003 x483004 bt500.1 bt500.2.1 bt500.2.2.1 bt500.2.2.2.1 bt500.2.2.2.2).bind fun bt505 => ((stamp_Later.f k x495000 x495001 x495002 x495003 x495004 x483000 x483001 x483002 x483003 x483004).bind fun bt510 => ((stamp_Later.f k bt510.1 bt510.2.1 bt510.2.2.1 bt510.2.2.2.1 bt510.2.2.2.2 x489000 x489001 x489002 x489003 x489004).bind fun bt515 => (if ((bt505.1 == bt515.1 && (bt505.2.1 == bt515.2.1 && (bt505.2.2.1 == bt515.2.2.1 && (bt505.2.2.2.1 == bt515.2.2.2.1)))) && (bt505.2.2.2.2 == bt515.2.2.2.2)) = true then (some true) else (none)))))) else (none)) else ((stamp_Later.f k x489000 x489001 x489002 x489003 x489004 x495000 x495001 x495002 x495003 x495004).bind fun bt520 => ((stamp_Later.f k x483000 x483001 x483002 x483003 x483004 bt520.1 bt520.2.1 bt520.2.2.1 bt520.2.2.2.1 bt520.2.2.2.2).bind fun bt525 => ((stamp_Later.f k x495000 x495001 x495002 x495003 x495004 x483000 x483001 x483002 x483003 x483004).bind fun bt530 => ((stamp_Later.f k bt530.1 bt530.2.1 bt530.2.2.1 bt530.2.2.2.1 bt530.2.2.2.2 x489000 x489001 x489002 x489003 x489004).bind fun bt535 => (if ((bt525.1 == bt535.1 && (bt525.2.1 == bt535.2.1 && (bt525.2.2.1 == bt535.2.2.1 && (bt525.2.2.2.1 == bt535.2.2.2.1)))) && (bt525.2.2.2.2 == bt535.2.2.2.2)) = true then (some true) else (none)))))))) else (none)) else (if ((x483000 == x489000 && (x483001 == x489001 && (x483002 == x489002 && (x483003 == x489003)))) && (x483004 == x489004)) = true then (none) else (if x12 = true then (none) else (if x13 = true then (if x11 < 0 then ((stamp_Later.f k x489000 x489001 x489002 x489003 x489004 x495000 x495001 x495002 x495003 x495004).bind fun bt540 => ((stamp_Later.f k x483000 x483001 x483002 x483003 x483004 bt540.1 bt540.2.1 bt540.2.2.1 bt540.2.2.2.1 bt540.2.2.2.2).bind fun bt545 => ((stamp_Later.f k x495000 x495001 x495002 x495003 x495004 x483000 x483001 x483002 x483003 x483004).bind fun bt550 => ((stamp_Later.f k bt550.1 bt550.2.1 bt550.2.2.1 bt550.2.2.2.1 bt550.2.2.2.2 x489000 x489001 x489002 x489003 x489004).bind fun bt555 => (if ((bt545.1 == bt555.1 && (bt545.2.1 == bt555.2.1 && (bt545.2.2.1 == bt555.2.2.1 && (bt545.2.2.2.1 == bt555.2.2.2.1)))) && (bt545.2.2.2.2 == bt555.2.2.2.2)) = true then (some true) else (none)))))) else (none)) else ((stamp_Later.f k x489000 x489001 x489002 x489003 x489004 x495000 x495001 x495002 x495003 x495004).bind fun bt560 => ((stamp_Later.f k x483000 x483001 x483002 x483003 x483004 bt560.1 bt560.2.1 bt560.2.2.1 bt560.2.2.2.1 bt560.2.2.2.2).bind fun bt565 => ((stamp_Later.f k x495000 x495001 x495002 x495003 x495004 x483000 x483001 x483002 x483003 x483004).bind fun bt570 => ((stamp_Later.f k bt570.1 bt570.2.1 bt570.2.2.1 bt570.2.2.2.1 bt570.2.2.2.2 x489000 x489001 x489002 x489003 x489004).bind fun bt575 => (if ((bt565.1 == bt575.1 && (bt565.2.1 == bt575.2.1 && (bt565.2.2.1 == bt575.2.2.1 && (bt565.2.2.2.1 == bt575.2.2.2.1)))) && (bt565.2.2.2.2 == bt575.2.2.2.2)) = true then (some true) else (none)))))))))) else (none))) else (none)
end
def tenementlaw07_StampOrder.f (k : Nat) (a0_0 : Int) (a0_1 : Int) (a0_2 : Int) (a0_3 : Int) (a0_4 : Int) (a0_5 : Bool) (a1_0 : Int) (a1_1 : Int) (a1_2 : Int) (a1_3 : Int) (a1_4 : Int) (a1_5 : Bool) (a2_0 : Int) (a2_1 : Int) (a2_2 : Int) (a2_3 : Int) (a2_4 : Int) (a2_5 : Bool) : Option (Bool) := (tenementlaw07_examples.f k).bind fun t476 => (if t476 = true then ((tenementlaw07_Mark_mark.f k a0_0 a0_1 a0_2 a0_3 a0_4 true).bind fun bt477 => ((tenementlaw07_Mark_mark.f k a1_0 a1_1 a1_2 a1_3 a1_4 true).bind fun bt483 => ((tenementlaw07_Mark_mark.f k a2_0 a2_1 a2_2 a2_3 a2_4 true).bind fun bt489 => ((stamp_Order.f k bt477.1 bt477.2.1 bt477.2.2.1 bt477.2.2.2.1 bt477.2.2.2.2 bt483.1 bt483.2.1 bt483.2.2.1 bt483.2.2.2.1 bt483.2.2.2.2).bind fun t495 => (if t495 ≤ 0 then ((stamp_Order.f k bt483.1 bt483.2.1 bt483.2.2.1 bt483.2.2.2.1 bt483.2.2.2.2 bt489.1 bt489.2.1 bt489.2.2.1 bt489.2.2.2.1 bt489.2.2.2.2).bind fun t496 => (if t496 ≤ 0 then ((stamp_Order.f k bt477.1 bt477.2.1 bt477.2.2.1 bt477.2.2.2.1 bt477.2.2.2.2 bt489.1 bt489.2.1 bt489.2.2.1 bt489.2.2.2.1 bt489.2.2.2.2).bind fun t497 => (tenementlaw07_StampOrder.j0 k t476 t495 (decide (t497 > 0)) bt477.1 bt477.2.1 bt477.2.2.1 bt477.2.2.2.1 bt477.2.2.2.2 bt483.1 bt483.2.1 bt483.2.2.1 bt483.2.2.2.1 bt483.2.2.2.2 bt489.1 bt489.2.1 bt489.2.2.1 bt489.2.2.2.1 bt489.2.2.2.2)) else (tenementlaw07_StampOrder.j0 k t476 t495 false bt477.1 bt477.2.1 bt477.2.2.1 bt477.2.2.2.1 bt477.2.2.2.2 bt483.1 bt483.2.1 bt483.2.2.1 bt483.2.2.2.1 bt483.2.2.2.2 bt489.1 bt489.2.1 bt489.2.2.1 bt489.2.2.2.1 bt489.2.2.2.2))) else (tenementlaw07_StampOrder.j0 k t476 t495 false bt477.1 bt477.2.1 bt477.2.2.1 bt477.2.2.2.1 bt477.2.2.2.2 bt483.1 bt483.2.1 bt483.2.2.1 bt483.2.2.2.1 bt483.2.2.2.2 bt489.1 bt489.2.1 bt489.2.2.1 bt489.2.2.2.1 bt489.2.2.2.2)))))) else (none))
theorem tenementlaw07_StampOrder.mono_l : ∀ k, (∀ y0 y1 y2 y3 y4 y5 y6 y7 y8 y9 y10 y11 y12 y13 y14 y15 y16 y17, LeO (tenementlaw07_StampOrder.j0 k y0 y1 y2 y3 y4 y5 y6 y7 y8 y9 y10 y11 y12 y13 y14 y15 y16 y17) (tenementlaw07_StampOrder.j0 (k + 1) y0 y1 y2 y3 y4 y5 y6 y7 y8 y9 y10 y11 y12 y13 y14 y15 y16 y17)) ∧ (∀ y0 y1 y2 y3 y4 y5 y6 y7 y8 y9 y10 y11 y12 y13 y14 y15 y16 y17 y18, LeO (tenementlaw07_StampOrder.j1 k y0 y1 y2 y3 y4 y5 y6 y7 y8 y9 y10 y11 y12 y13 y14 y15 y16 y17 y18) (tenementlaw07_StampOrder.j1 (k + 1) y0 y1 y2 y3 y4 y5 y6 y7 y8 y9 y10 y11 y12 y13 y14 y15 y16 y17 y18))
  | 0 => ⟨fun _ _ _ _ _ _ _ _ _ _ _ _ _ _ _ _ _ _ r h => by simp [tenementlaw07_StampOrder.j0] at h, fun _ _ _ _ _ _ _ _ _ _ _ _ _ _ _ _ _ _ _ r h => by simp [tenementlaw07_StampOrder.j1] at h⟩
  | k + 1 => by
    obtain ⟨ih0, ih1⟩ := tenementlaw07_StampOrder.mono_l k
    refine ⟨?_, ?_⟩
    · intro y0 y1 y2 y3 y4 y5 y6 y7 y8 y9 y10 y11 y12 y13 y14 y15 y16 y17
      unfold tenementlaw07_StampOrder.j0
      repeat' first
      | (with_reducible exact ih0 _ _ _ _ _ _ _ _ _ _ _ _ _ _ _ _ _ _)
      | (with_reducible exact ih1 _ _ _ _ _ _ _ _ _ _ _ _ _ _ _ _ _ _ _)
      | (with_reducible exact stamp_Later.mono _ _ _ _ _ _ _ _ _ _ _)
      | (with_reducible exact stamp_Order.mono _ _ _ _ _ _ _ _ _ _ _)
      | (with_reducible exact tenementlaw07_Mark_mark.mono _ _ _ _ _ _ _)
      | (with_reducible exact tenementlaw07_examples.mono _)
      | (with_reducible exact LeO.refl _)
      | (with_reducible exact LeO.none _)
      | (with_reducible refine LeO.ite ?_ ?_)
      | (with_reducible refine LeO.bind ?_ (fun _ => ?_))
      | exact ih0 _ _ _ _ _ _ _ _ _ _ _ _ _ _ _ _ _ _
      | exact ih1 _ _ _ _ _ _ _ _ _ _ _ _ _ _ _ _ _ _ _
      | exact stamp_Later.mono _ _ _ _ _ _ _ _ _ _ _
      | exact stamp_Order.mono _ _ _ _ _ _ _ _ _ _ _
      | exact tenementlaw07_Mark_mark.mono _ _ _ _ _ _ _
      | exact tenementlaw07_examples.mono _
      | exact LeO.none _
      | refine LeO.ite ?_ ?_
      | refine LeO.bind ?_ (fun _ => ?_)
    · intro y0 y1 y2 y3 y4 y5 y6 y7 y8 y9 y10 y11 y12 y13 y14 y15 y16 y17 y18
      unfold tenementlaw07_StampOrder.j1
      repeat' first
      | (with_reducible exact ih0 _ _ _ _ _ _ _ _ _ _ _ _ _ _ _ _ _ _)
      | (with_reducible exact ih1 _ _ _ _ _ _ _ _ _ _ _ _ _ _ _ _ _ _ _)
      | (with_reducible exact stamp_Later.mono _ _ _ _ _ _ _ _ _ _ _)
      | (with_reducible exact stamp_Order.mono _ _ _ _ _ _ _ _ _ _ _)
      | (with_reducible exact tenementlaw07_Mark_mark.mono _ _ _ _ _ _ _)
      | (with_reducible exact tenementlaw07_examples.mono _)
      | (with_reducible exact LeO.refl _)
      | (with_reducible exact LeO.none _)
      | (with_reducible refine LeO.ite ?_ ?_)
      | (with_reducible refine LeO.bind ?_ (fun _ => ?_))
      | exact ih0 _ _ _ _ _ _ _ _ _ _ _ _ _ _ _ _ _ _
      | exact ih1 _ _ _ _ _ _ _ _ _ _ _ _ _ _ _ _ _ _ _
      | exact stamp_Later.mono _ _ _ _ _ _ _ _ _ _ _
      | exact stamp_Order.mono _ _ _ _ _ _ _ _ _ _ _
      | exact tenementlaw07_Mark_mark.mono _ _ _ _ _ _ _
      | exact tenementlaw07_examples.mono _
      | exact LeO.none _
      | refine LeO.ite ?_ ?_
      | refine LeO.bind ?_ (fun _ => ?_)
theorem tenementlaw07_StampOrder.mono : ∀ a0 a1 a2 a3 a4 a5 a6 a7 a8 a9 a10 a11 a12 a13 a14 a15 a16 a17 k, LeO (tenementlaw07_StampOrder.f k a0 a1 a2 a3 a4 a5 a6 a7 a8 a9 a10 a11 a12 a13 a14 a15 a16 a17) (tenementlaw07_StampOrder.f (k + 1) a0 a1 a2 a3 a4 a5 a6 a7 a8 a9 a10 a11 a12 a13 a14 a15 a16 a17) := by
  intro a0 a1 a2 a3 a4 a5 a6 a7 a8 a9 a10 a11 a12 a13 a14 a15 a16 a17 k
  obtain ⟨ih0, ih1⟩ := tenementlaw07_StampOrder.mono_l k
  unfold tenementlaw07_StampOrder.f
  repeat' first
      | (with_reducible exact ih0 _ _ _ _ _ _ _ _ _ _ _ _ _ _ _ _ _ _)
      | (with_reducible exact ih1 _ _ _ _ _ _ _ _ _ _ _ _ _ _ _ _ _ _ _)
      | (with_reducible exact stamp_Later.mono _ _ _ _ _ _ _ _ _ _ _)
      | (with_reducible exact stamp_Order.mono _ _ _ _ _ _ _ _ _ _ _)
      | (with_reducible exact tenementlaw07_Mark_mark.mono _ _ _ _ _ _ _)
      | (with_reducible exact tenementlaw07_examples.mono _)
      | (with_reducible exact LeO.refl _)
      | (with_reducible exact LeO.none _)
      | (with_reducible refine LeO.ite ?_ ?_)
      | (with_reducible refine LeO.bind ?_ (fun _ => ?_))
      | exact ih0 _ _ _ _ _ _ _ _ _ _ _ _ _ _ _ _ _ _
      | exact ih1 _ _ _ _ _ _ _ _ _ _ _ _ _ _ _ _ _ _ _
      | exact stamp_Later.mono _ _ _ _ _ _ _ _ _ _ _
      | exact stamp_Order.mono _ _ _ _ _ _ _ _ _ _ _
      | exact tenementlaw07_Mark_mark.mono _ _ _ _ _ _ _
      | exact tenementlaw07_examples.mono _
      | exact LeO.none _
      | refine LeO.ite ?_ ?_
      | refine LeO.bind ?_ (fun _ => ?_)
def tenementlaw07_StampOrder.T13 : Bool × List (List Nat × List Nat) := (true, [([], []), ([0], [0]), ([1], [1]), ([1], [1]), ([1], [1]), ([3, 4, 1, 1], [1, 3, 4]), ([5, 1], [1, 5]), ([2, 6, 1], [1, 2, 6]), ([1, 7], [1, 7]), ([8, 5], [8]), ([9], [9]), ([10, 9], [9, 10]), ([9], [9]), ([9], [9]), ([12, 13, 9], [9, 12, 13]), ([11, 14, 9], [9, 11, 14]), ([9, 15], [9, 15]), ([16, 9], [16]), ([17], [17]), ([18, 17], [17, 18]), ([17, 19], [17, 19]), ([20, 17], [20]), ([21], [21]), ([22, 21], [21, 22]), ([23, 21, 21], [21, 23]), ([24], [24]), ([25, 24], [24, 25]), ([24, 26, 21], [21, 24, 26]), ([21, 27], [21, 27]), ([28, 24], [28]), ([29], [29]), ([29], [29]), ([29], [29]), ([31, 32, 29, 29], [29, 31, 32]), ([30, 33, 33, 29], [29, 30, 33]), ([29], [29]), ([29], [29]), ([35, 36, 34, 29], [29, 35, 36]), ([29], [29]), ([37, 38, 37, 29], [29, 37, 38]), ([34, 39, 29], [29, 34, 39]), ([29, 40], [29, 40]), ([41, 39, 0, 1, 2, 3, 4, 5, 6, 7, 8, 9, 10, 11, 12, 13, 14, 15, 16, 17, 18, 19, 20, 21, 22, 23, 24, 25, 26, 27, 28, 29, 30, 31, 32, 33, 34, 35, 36, 37, 38, 39, 40, 41], [41])])
def tenementlaw07_StampOrder.B13 : List Nat := [0, 1, 3, 3, 3, 27, 59, 127, 255, 511, 1023, 2047, 1023, 1023, 13311, 32767, 65535, 131071, 262143, 524287, 1048575, 2097151, 4194303, 8388607, 16777215, 33554431, 67108863, 134217727, 268435455, 536870911, 1073741823, 1073741823, 1073741823, 7516192767, 17179869183, 1073741823, 1073741823, 137438953471, 1073741823, 549755813887, 1099511627775, 2199023255551, 4398046511103]
theorem tenementlaw07_StampOrder.tab13 : rtab .any (opsOf Tryd.f5 13) = tenementlaw07_StampOrder.T13 := by kernel_rfl
theorem tenementlaw07_StampOrder.bits13 : waitsOk tenementlaw07_StampOrder.T13.2 tenementlaw07_StampOrder.B13 = true := by kernel_rfl
set_option maxHeartbeats 8000000 in
set_option maxRecDepth 100000 in
theorem tenementlaw07_StampOrder.calls (k : Nat) (a0_0 : Int) (a0_1 : Int) (a0_2 : Int) (a0_3 : Int) (a0_4 : Int) (a0_5 : Bool) (a1_0 : Int) (a1_1 : Int) (a1_2 : Int) (a1_3 : Int) (a1_4 : Int) (a1_5 : Bool) (a2_0 : Int) (a2_1 : Int) (a2_2 : Int) (a2_3 : Int) (a2_4 : Int) (a2_5 : Bool) (r : Bool) (w : World) (h : tenementlaw07_StampOrder.f k a0_0 a0_1 a0_2 a0_3 a0_4 a0_5 a1_0 a1_1 a1_2 a1_3 a1_4 a1_5 a2_0 a2_1 a2_2 a2_3 a2_4 a2_5 = some r) :
    Calls Tryd.prog 5 #[.agg #[.int .u64 a0_0, .int .u64 a0_1, .int .u64 a0_2, .int .u64 a0_3, .int .i64 a0_4, .bool a0_5], .agg #[.int .u64 a1_0, .int .u64 a1_1, .int .u64 a1_2, .int .u64 a1_3, .int .i64 a1_4, .bool a1_5], .agg #[.int .u64 a2_0, .int .u64 a2_1, .int .u64 a2_2, .int .u64 a2_3, .int .i64 a2_4, .bool a2_5]] w fun e w' => e = .returned (.bool r) ∧ Below w.heap.size w w' := by
  have hu28 := Tryd.underlying28
  have hu26 := Tryd.underlying26
  have hu24 := Tryd.underlying24
  have HB := Aside0.mk (Below.refl w.heap.size w)
  have H : ((tenementlaw07_examples.f k).bind fun t476 => (if t476 = true then ((tenementlaw07_Mark_mark.f k a0_0 a0_1 a0_2 a0_3 a0_4 true).bind fun bt477 => ((tenementlaw07_Mark_mark.f k a1_0 a1_1 a1_2 a1_3 a1_4 true).bind fun bt483 => ((tenementlaw07_Mark_mark.f k a2_0 a2_1 a2_2 a2_3 a2_4 true).bind fun bt489 => ((stamp_Order.f k bt477.1 bt477.2.1 bt477.2.2.1 bt477.2.2.2.1 bt477.2.2.2.2 bt483.1 bt483.2.1 bt483.2.2.1 bt483.2.2.2.1 bt483.2.2.2.2).bind fun t495 => (if t495 ≤ 0 then ((stamp_Order.f k bt483.1 bt483.2.1 bt483.2.2.1 bt483.2.2.2.1 bt483.2.2.2.2 bt489.1 bt489.2.1 bt489.2.2.1 bt489.2.2.2.1 bt489.2.2.2.2).bind fun t496 => (if t496 ≤ 0 then ((stamp_Order.f k bt477.1 bt477.2.1 bt477.2.2.1 bt477.2.2.2.1 bt477.2.2.2.2 bt489.1 bt489.2.1 bt489.2.2.1 bt489.2.2.2.1 bt489.2.2.2.2).bind fun t497 => (tenementlaw07_StampOrder.j0 k t476 t495 (decide (t497 > 0)) bt477.1 bt477.2.1 bt477.2.2.1 bt477.2.2.2.1 bt477.2.2.2.2 bt483.1 bt483.2.1 bt483.2.2.1 bt483.2.2.2.1 bt483.2.2.2.2 bt489.1 bt489.2.1 bt489.2.2.1 bt489.2.2.2.1 bt489.2.2.2.2)) else (tenementlaw07_StampOrder.j0 k t476 t495 false bt477.1 bt477.2.1 bt477.2.2.1 bt477.2.2.2.1 bt477.2.2.2.2 bt483.1 bt483.2.1 bt483.2.2.1 bt483.2.2.2.1 bt483.2.2.2.2 bt489.1 bt489.2.1 bt489.2.2.1 bt489.2.2.2.1 bt489.2.2.2.2))) else (tenementlaw07_StampOrder.j0 k t476 t495 false bt477.1 bt477.2.1 bt477.2.2.1 bt477.2.2.2.1 bt477.2.2.2.2 bt483.1 bt483.2.1 bt483.2.2.1 bt483.2.2.2.1 bt483.2.2.2.2 bt489.1 bt489.2.1 bt489.2.2.1 bt489.2.2.2.1 bt489.2.2.2.2)))))) else (none))) = some r := h
  clear h
  replace H := Option.bind_eq_some_iff.mp H
  obtain ⟨t476, A40, H⟩ := H
  replace H : (if t476 = true then ((tenementlaw07_Mark_mark.f k a0_0 a0_1 a0_2 a0_3 a0_4 true).bind fun bt477 => ((tenementlaw07_Mark_mark.f k a1_0 a1_1 a1_2 a1_3 a1_4 true).bind fun bt483 => ((tenementlaw07_Mark_mark.f k a2_0 a2_1 a2_2 a2_3 a2_4 true).bind fun bt489 => ((stamp_Order.f k bt477.1 bt477.2.1 bt477.2.2.1 bt477.2.2.2.1 bt477.2.2.2.2 bt483.1 bt483.2.1 bt483.2.2.1 bt483.2.2.2.1 bt483.2.2.2.2).bind fun t495 => (if t495 ≤ 0 then ((stamp_Order.f k bt483.1 bt483.2.1 bt483.2.2.1 bt483.2.2.2.1 bt483.2.2.2.2 bt489.1 bt489.2.1 bt489.2.2.1 bt489.2.2.2.1 bt489.2.2.2.2).bind fun t496 => (if t496 ≤ 0 then ((stamp_Order.f k bt477.1 bt477.2.1 bt477.2.2.1 bt477.2.2.2.1 bt477.2.2.2.2 bt489.1 bt489.2.1 bt489.2.2.1 bt489.2.2.2.1 bt489.2.2.2.2).bind fun t497 => (tenementlaw07_StampOrder.j0 k t476 t495 (decide (t497 > 0)) bt477.1 bt477.2.1 bt477.2.2.1 bt477.2.2.2.1 bt477.2.2.2.2 bt483.1 bt483.2.1 bt483.2.2.1 bt483.2.2.2.1 bt483.2.2.2.2 bt489.1 bt489.2.1 bt489.2.2.1 bt489.2.2.2.1 bt489.2.2.2.2)) else (tenementlaw07_StampOrder.j0 k t476 t495 false bt477.1 bt477.2.1 bt477.2.2.1 bt477.2.2.2.1 bt477.2.2.2.2 bt483.1 bt483.2.1 bt483.2.2.1 bt483.2.2.2.1 bt483.2.2.2.2 bt489.1 bt489.2.1 bt489.2.2.1 bt489.2.2.2.1 bt489.2.2.2.2))) else (tenementlaw07_StampOrder.j0 k t476 t495 false bt477.1 bt477.2.1 bt477.2.2.1 bt477.2.2.2.1 bt477.2.2.2.2 bt483.1 bt483.2.1 bt483.2.2.1 bt483.2.2.2.1 bt483.2.2.2.2 bt489.1 bt489.2.1 bt489.2.2.1 bt489.2.2.2.1 bt489.2.2.2.2)))))) else (none)) = some r := H
  have A4 := Aside0.mk A40
  clear A40
  by_cases c5 : t476 = true
  rotate_left
  · replace c5 := Bool.eq_false_iff.mpr c5
    subst c5
    have H1 : (none) = some r := by rw [if_neg (show ¬ (false = true) by decide)] at H; exact H
    clear H
    have H := H1
    clear H1
    exact absurd H (by simp)
  subst c5
  have H1 : ((tenementlaw07_Mark_mark.f k a0_0 a0_1 a0_2 a0_3 a0_4 true).bind fun bt477 => ((tenementlaw07_Mark_mark.f k a1_0 a1_1 a1_2 a1_3 a1_4 true).bind fun bt483 => ((tenementlaw07_Mark_mark.f k a2_0 a2_1 a2_2 a2_3 a2_4 true).bind fun bt489 => ((stamp_Order.f k bt477.1 bt477.2.1 bt477.2.2.1 bt477.2.2.2.1 bt477.2.2.2.2 bt483.1 bt483.2.1 bt483.2.2.1 bt483.2.2.2.1 bt483.2.2.2.2).bind fun t495 => (if t495 ≤ 0 then ((stamp_Order.f k bt483.1 bt483.2.1 bt483.2.2.1 bt483.2.2.2.1 bt483.2.2.2.2 bt489.1 bt489.2.1 bt489.2.2.1 bt489.2.2.2.1 bt489.2.2.2.2).bind fun t496 => (if t496 ≤ 0 then ((stamp_Order.f k bt477.1 bt477.2.1 bt477.2.2.1 bt477.2.2.2.1 bt477.2.2.2.2 bt489.1 bt489.2.1 bt489.2.2.1 bt489.2.2.2.1 bt489.2.2.2.2).bind fun t497 => (tenementlaw07_StampOrder.j0 k true t495 (decide (t497 > 0)) bt477.1 bt477.2.1 bt477.2.2.1 bt477.2.2.2.1 bt477.2.2.2.2 bt483.1 bt483.2.1 bt483.2.2.1 bt483.2.2.2.1 bt483.2.2.2.2 bt489.1 bt489.2.1 bt489.2.2.1 bt489.2.2.2.1 bt489.2.2.2.2)) else (tenementlaw07_StampOrder.j0 k true t495 false bt477.1 bt477.2.1 bt477.2.2.1 bt477.2.2.2.1 bt477.2.2.2.2 bt483.1 bt483.2.1 bt483.2.2.1 bt483.2.2.2.1 bt483.2.2.2.2 bt489.1 bt489.2.1 bt489.2.2.1 bt489.2.2.2.1 bt489.2.2.2.2))) else (tenementlaw07_StampOrder.j0 k true t495 false bt477.1 bt477.2.1 bt477.2.2.1 bt477.2.2.2.1 bt477.2.2.2.2 bt483.1 bt483.2.1 bt483.2.2.1 bt483.2.2.2.1 bt483.2.2.2.2 bt489.1 bt489.2.1 bt489.2.2.1 bt489.2.2.2.1 bt489.2.2.2.2)))))) = some r := by rw [if_pos rfl] at H; exact H
  clear H
  have H := H1
  clear H1
  replace H := Option.bind_eq_some_iff.mp H
  obtain ⟨⟨t477, t478, t479, t480, t481⟩, A60, H⟩ := H
  replace H : ((tenementlaw07_Mark_mark.f k a1_0 a1_1 a1_2 a1_3 a1_4 true).bind fun bt483 => ((tenementlaw07_Mark_mark.f k a2_0 a2_1 a2_2 a2_3 a2_4 true).bind fun bt489 => ((stamp_Order.f k t477 t478 t479 t480 t481 bt483.1 bt483.2.1 bt483.2.2.1 bt483.2.2.2.1 bt483.2.2.2.2).bind fun t495 => (if t495 ≤ 0 then ((stamp_Order.f k bt483.1 bt483.2.1 bt483.2.2.1 bt483.2.2.2.1 bt483.2.2.2.2 bt489.1 bt489.2.1 bt489.2.2.1 bt489.2.2.2.1 bt489.2.2.2.2).bind fun t496 => (if t496 ≤ 0 then ((stamp_Order.f k t477 t478 t479 t480 t481 bt489.1 bt489.2.1 bt489.2.2.1 bt489.2.2.2.1 bt489.2.2.2.2).bind fun t497 => (tenementlaw07_StampOrder.j0 k true t495 (decide (t497 > 0)) t477 t478 t479 t480 t481 bt483.1 bt483.2.1 bt483.2.2.1 bt483.2.2.2.1 bt483.2.2.2.2 bt489.1 bt489.2.1 bt489.2.2.1 bt489.2.2.2.1 bt489.2.2.2.2)) else (tenementlaw07_StampOrder.j0 k true t495 false t477 t478 t479 t480 t481 bt483.1 bt483.2.1 bt483.2.2.1 bt483.2.2.2.1 bt483.2.2.2.2 bt489.1 bt489.2.1 bt489.2.2.1 bt489.2.2.2.1 bt489.2.2.2.2))) else (tenementlaw07_StampOrder.j0 k true t495 false t477 t478 t479 t480 t481 bt483.1 bt483.2.1 bt483.2.2.1 bt483.2.2.2.1 bt483.2.2.2.2 bt489.1 bt489.2.1 bt489.2.2.1 bt489.2.2.2.1 bt489.2.2.2.2))))) = some r := H
  have A6 := Aside0.mk A60
  clear A60
  replace H := Option.bind_eq_some_iff.mp H
  obtain ⟨⟨t483, t484, t485, t486, t487⟩, A70, H⟩ := H
  replace H : ((tenementlaw07_Mark_mark.f k a2_0 a2_1 a2_2 a2_3 a2_4 true).bind fun bt489 => ((stamp_Order.f k t477 t478 t479 t480 t481 t483 t484 t485 t486 t487).bind fun t495 => (if t495 ≤ 0 then ((stamp_Order.f k t483 t484 t485 t486 t487 bt489.1 bt489.2.1 bt489.2.2.1 bt489.2.2.2.1 bt489.2.2.2.2).bind fun t496 => (if t496 ≤ 0 then ((stamp_Order.f k t477 t478 t479 t480 t481 bt489.1 bt489.2.1 bt489.2.2.1 bt489.2.2.2.1 bt489.2.2.2.2).bind fun t497 => (tenementlaw07_StampOrder.j0 k true t495 (decide (t497 > 0)) t477 t478 t479 t480 t481 t483 t484 t485 t486 t487 bt489.1 bt489.2.1 bt489.2.2.1 bt489.2.2.2.1 bt489.2.2.2.2)) else (tenementlaw07_StampOrder.j0 k true t495 false t477 t478 t479 t480 t481 t483 t484 t485 t486 t487 bt489.1 bt489.2.1 bt489.2.2.1 bt489.2.2.2.1 bt489.2.2.2.2))) else (tenementlaw07_StampOrder.j0 k true t495 false t477 t478 t479 t480 t481 t483 t484 t485 t486 t487 bt489.1 bt489.2.1 bt489.2.2.1 bt489.2.2.2.1 bt489.2.2.2.2)))) = some r := H
  have A7 := Aside0.mk A70
  clear A70
  replace H := Option.bind_eq_some_iff.mp H
  obtain ⟨⟨t489, t490, t491, t492, t493⟩, A80, H⟩ := H
  replace H : ((stamp_Order.f k t477 t478 t479 t480 t481 t483 t484 t485 t486 t487).bind fun t495 => (if t495 ≤ 0 then ((stamp_Order.f k t483 t484 t485 t486 t487 t489 t490 t491 t492 t493).bind fun t496 => (if t496 ≤ 0 then ((stamp_Order.f k t477 t478 t479 t480 t481 t489 t490 t491 t492 t493).bind fun t497 => (tenementlaw07_StampOrder.j0 k true t495 (decide (t497 > 0)) t477 t478 t479 t480 t481 t483 t484 t485 t486 t487 t489 t490 t491 t492 t493)) else (tenementlaw07_StampOrder.j0 k true t495 false t477 t478 t479 t480 t481 t483 t484 t485 t486 t487 t489 t490 t491 t492 t493))) else (tenementlaw07_StampOrder.j0 k true t495 false t477 t478 t479 t480 t481 t483 t484 t485 t486 t487 t489 t490 t491 t492 t493))) = some r := H
  have A8 := Aside0.mk A80
  clear A80
  replace H := Option.bind_eq_some_iff.mp H
  obtain ⟨t495, A90, H⟩ := H
  replace H : (if t495 ≤ 0 then ((stamp_Order.f k t483 t484 t485 t486 t487 t489 t490 t491 t492 t493).bind fun t496 => (if t496 ≤ 0 then ((stamp_Order.f k t477 t478 t479 t480 t481 t489 t490 t491 t492 t493).bind fun t497 => (tenementlaw07_StampOrder.j0 k true t495 (decide (t497 > 0)) t477 t478 t479 t480 t481 t483 t484 t485 t486 t487 t489 t490 t491 t492 t493)) else (tenementlaw07_StampOrder.j0 k true t495 false t477 t478 t479 t480 t481 t483 t484 t485 t486 t487 t489 t490 t491 t492 t493))) else (tenementlaw07_StampOrder.j0 k true t495 false t477 t478 t479 t480 t481 t483 t484 t485 t486 t487 t489 t490 t491 t492 t493)) = some r := H
  have A9 := Aside0.mk A90
  clear A90
  have HC10 := Aside0.mk H
  clear H
  go_enter Tryd.func5, Tryd.ntmps5
  go_upto_region 11 with (first | ((with_reducible refine gate_dst (N := 3) rfl ?_); refine box_event ?hg (N := 3) ?hd (cs := #[.int .u64 a0_0, .int .u64 a0_1, .int .u64 a0_2, .int .u64 a0_3, .int .i64 a0_4, .bool a0_5]) (t := 28) ?hr ?_; (case hd => rfl); (case hg => rfl); (case hr => first | (go_simp; done) | (go_simp; rfl)); intro gb473 hg w11 hbox hb; have BK473 := Aside0.mk (hbox); have GW473 := Kw_ HB hg; have GE473 := GW473; replace HB := Ks_ HB hb; clear hb hbox hg) | ((with_reducible refine gate_dst (N := 4) rfl ?_); refine box_event ?hg (N := 4) ?hd (cs := #[.int .u64 a1_0, .int .u64 a1_1, .int .u64 a1_2, .int .u64 a1_3, .int .i64 a1_4, .bool a1_5]) (t := 28) ?hr ?_; (case hd => rfl); (case hg => rfl); (case hr => first | (go_simp; done) | (go_simp; rfl)); intro gb474 hg w12 hbox hb; have BK474 := Aside0.mk (hbox); have GW474 := Kw_ HB hg; have GE474 := GW474; have NB473_474 := Kl_ BK473 hg; have NB474_473 := Kr_ BK473 hg; replace BK473 := Kb_ BK473 hb; replace HB := Ks_ HB hb; clear hb hbox hg) | ((with_reducible refine gate_dst (N := 5) rfl ?_); refine box_event ?hg (N := 5) ?hd (cs := #[.int .u64 a2_0, .int .u64 a2_1, .int .u64 a2_2, .int .u64 a2_3, .int .i64 a2_4, .bool a2_5]) (t := 28) ?hr ?_; (case hd => rfl); (case hg => rfl); (case hr => first | (go_simp; done) | (go_simp; rfl)); intro gb475 hg w13 hbox hb; have BK475 := Aside0.mk (hbox); have GW475 := Kw_ HB hg; have GE475 := GW475; have NB473_475 := Kl_ BK473 hg; have NB475_473 := Kr_ BK473 hg; have NB474_475 := Kl_ BK474 hg; have NB475_474 := Kr_ BK474 hg; replace BK473 := Kb_ BK473 hb; replace BK474 := Kb_ BK474 hb; replace HB := Ks_ HB hb; clear hb hbox hg) | ((with_reducible refine gate_callee (f := 9) rfl ?_); refine goesL_ (some 14) rfl rfl Tryd.func9 (by kernel_rfl) rfl #[] rfl (by (try simp only [List.map_toArray, List.map_cons, List.map_nil]); first | done | rfl | (simp only [List.length_drop, List.length_take]; rfl)) ?_; (with_reducible refine (tenementlaw07_examples.calls k  true _ A4.out).mono ?_); rintro e w14 ⟨rfl, hb⟩; refine ⟨_, rfl, ?_⟩; replace BK473 := Kb_ BK473 hb; replace BK474 := Kb_ BK474 hb; replace BK475 := Kb_ BK475 hb; replace HB := Ks_ HB hb; (try clear hb); (try clear hb2); (try clear hk); (try clear hi); have hnb15 := NB473_474.out; have hnc15 := NB474_473.out; have hnb16 := NB473_475.out; have hnc16 := NB475_473.out; have hcz17_0 : w14.cell? ⟨gb473, 0, none⟩ = some (.int .u64 a0_0) := (blk_cell BK473.out 0).trans rfl; have hcz17_1 : w14.cell? ⟨gb473, 1, none⟩ = some (.int .u64 a0_1) := (blk_cell BK473.out 1).trans rfl; have hcz17_2 : w14.cell? ⟨gb473, 2, none⟩ = some (.int .u64 a0_2) := (blk_cell BK473.out 2).trans rfl; have hcz17_3 : w14.cell? ⟨gb473, 3, none⟩ = some (.int .u64 a0_3) := (blk_cell BK473.out 3).trans rfl; have hcz17_4 : w14.cell? ⟨gb473, 4, none⟩ = some (.int .i64 a0_4) := (blk_cell BK473.out 4).trans rfl; have hcz17_5 : w14.cell? ⟨gb473, 5, none⟩ = some (.bool a0_5) := (blk_cell BK473.out 5).trans rfl; have hfz17_0 := blk_frozen BK473.out 0; have hfz17_1 := blk_frozen BK473.out 1; have hfz17_2 := blk_frozen BK473.out 2; have hfz17_3 := blk_frozen BK473.out 3; have hfz17_4 := blk_frozen BK473.out 4; have hfz17_5 := blk_frozen BK473.out 5; have hnb18 := NB474_475.out; have hnc18 := NB475_474.out; have hcz19_0 : w14.cell? ⟨gb474, 0, none⟩ = some (.int .u64 a1_0) := (blk_cell BK474.out 0).trans rfl; have hcz19_1 : w14.cell? ⟨gb474, 1, none⟩ = some (.int .u64 a1_1) := (blk_cell BK474.out 1).trans rfl; have hcz19_2 : w14.cell? ⟨gb474, 2, none⟩ = some (.int .u64 a1_2) := (blk_cell BK474.out 2).trans rfl; have hcz19_3 : w14.cell? ⟨gb474, 3, none⟩ = some (.int .u64 a1_3) := (blk_cell BK474.out 3).trans rfl; have hcz19_4 : w14.cell? ⟨gb474, 4, none⟩ = some (.int .i64 a1_4) := (blk_cell BK474.out 4).trans rfl; have hcz19_5 : w14.cell? ⟨gb474, 5, none⟩ = some (.bool a1_5) := (blk_cell BK474.out 5).trans rfl; have hfz19_0 := blk_frozen BK474.out 0; have hfz19_1 := blk_frozen BK474.out 1; have hfz19_2 := blk_frozen BK474.out 2; have hfz19_3 := blk_frozen BK474.out 3; have hfz19_4 := blk_frozen BK474.out 4; have hfz19_5 := blk_frozen BK474.out 5; have hcz20_0 : w14.cell? ⟨gb475, 0, none⟩ = some (.int .u64 a2_0) := (blk_cell BK475.out 0).trans rfl; have hcz20_1 : w14.cell? ⟨gb475, 1, none⟩ = some (.int .u64 a2_1) := (blk_cell BK475.out 1).trans rfl; have hcz20_2 : w14.cell? ⟨gb475, 2, none⟩ = some (.int .u64 a2_2) := (blk_cell BK475.out 2).trans rfl; have hcz20_3 : w14.cell? ⟨gb475, 3, none⟩ = some (.int .u64 a2_3) := (blk_cell BK475.out 3).trans rfl; have hcz20_4 : w14.cell? ⟨gb475, 4, none⟩ = some (.int .i64 a2_4) := (blk_cell BK475.out 4).trans rfl; have hcz20_5 : w14.cell? ⟨gb475, 5, none⟩ = some (.bool a2_5) := (blk_cell BK475.out 5).trans rfl; have hfz20_0 := blk_frozen BK475.out 0; have hfz20_1 := blk_frozen BK475.out 1; have hfz20_2 := blk_frozen BK475.out 2; have hfz20_3 := blk_frozen BK475.out 3; have hfz20_4 := blk_frozen BK475.out 4; have hfz20_5 := blk_frozen BK475.out 5) | ((with_reducible refine gate_callee (f := 10) rfl ?_); refine goesL_ (some 21) rfl rfl Tryd.func10 (by kernel_rfl) rfl #[.agg #[.int .u64 a0_0, .int .u64 a0_1, .int .u64 a0_2, .int .u64 a0_3, .int .i64 a0_4, .bool true]] rfl (by (try simp only [List.map_toArray, List.map_cons, List.map_nil]); first | done | rfl | (simp only [List.length_drop, List.length_take]; rfl)) ?_; (with_reducible refine (tenementlaw07_Mark_mark.calls k a0_0 a0_1 a0_2 a0_3 a0_4 true t477 t478 t479 t480 t481 _ A6.out).mono ?_); rintro e w21 ⟨rfl, hb⟩; refine ⟨_, rfl, ?_⟩; replace BK473 := Aside0.mk (blk_below (g := gb473) (o := .cells #[.int .u64 a0_0, .int .u64 a0_1, .int .u64 a0_2, .int .u64 a0_3, .int .i64 a0_4, .bool true] 28 (0, 0)) (by (repeat (first | (with_reducible first | refine blk_drewN ?_ _ | refine blk_drew ?_ | refine blk_alloc ?_ _) | refine blk_far ?_ NB473_475.out _ | refine blk_far ?_ NB473_474.out _)); refine blk_put (cs := #[.int .u64 a0_0, .int .u64 a0_1, .int .u64 a0_2, .int .u64 a0_3, .int .i64 a0_4, .bool a0_5]) ?_ 5 _ rfl; (with_reducible repeat (first | refine blk_drewN ?_ _ | refine blk_drew ?_ | refine blk_alloc ?_ _)); exact BK473.out) hb); replace BK474 := Aside0.mk (blk_below (g := gb474) (o := .cells #[.int .u64 a1_0, .int .u64 a1_1, .int .u64 a1_2, .int .u64 a1_3, .int .i64 a1_4, .bool true] 28 (0, 0)) (by (repeat (first | (with_reducible first | refine blk_drewN ?_ _ | refine blk_drew ?_ | refine blk_alloc ?_ _) | refine blk_far ?_ NB474_475.out _)); refine blk_put (cs := #[.int .u64 a1_0, .int .u64 a1_1, .int .u64 a1_2, .int .u64 a1_3, .int .i64 a1_4, .bool a1_5]) ?_ 5 _ rfl; (repeat (first | (with_reducible first | refine blk_drewN ?_ _ | refine blk_drew ?_ | refine blk_alloc ?_ _) | refine blk_far ?_ NB474_473.out _)); exact BK474.out) hb); replace BK475 := Aside0.mk (blk_below (g := gb475) (o := .cells #[.int .u64 a2_0, .int .u64 a2_1, .int .u64 a2_2, .int .u64 a2_3, .int .i64 a2_4, .bool true] 28 (0, 0)) (by (with_reducible repeat (first | refine blk_drewN ?_ _ | refine blk_drew ?_ | refine blk_alloc ?_ _)); refine blk_put (cs := #[.int .u64 a2_0, .int .u64 a2_1, .int .u64 a2_2, .int .u64 a2_3, .int .i64 a2_4, .bool a2_5]) ?_ 5 _ rfl; (repeat (first | (with_reducible first | refine blk_drewN ?_ _ | refine blk_drew ?_ | refine blk_alloc ?_ _) | refine blk_far ?_ NB475_474.out _ | refine blk_far ?_ NB475_473.out _)); exact BK475.out) hb); replace HB := Aside0.mk (below_step (by repeat (first | (with_reducible first | exact HB.out | apply below_alloc | apply pw_below_drewN | apply below_drew1 | refine below_set ?_ GE473.out | refine below_set ?_ GE474.out | refine below_set ?_ GE475.out) | exact HB.out)) hb); (try clear hb); (try clear hb2); (try clear hk); (try clear hi)) | ((with_reducible refine gate_dst (N := 8) rfl ?_); refine box_event ?hg (N := 8) ?hd (cs := #[.int .u64 0, .int .u64 0, .int .u64 0, .int .u64 0, .int .i64 0]) (t := 26) ?hr ?_; (case hd => rfl); (case hg => rfl); (case hr => first | (go_simp; done) | (go_simp; rfl)); intro gb482 hg w22 hbox hb; have BK482 := Aside0.mk (hbox); have GW482 := Kw_ HB hg; have GE482 := GW482; have NB473_482 := Kl_ BK473 hg; have NB482_473 := Kr_ BK473 hg; have NB474_482 := Kl_ BK474 hg; have NB482_474 := Kr_ BK474 hg; have NB475_482 := Kl_ BK475 hg; have NB482_475 := Kr_ BK475 hg; replace BK473 := Kb_ BK473 hb; replace BK474 := Kb_ BK474 hb; replace BK475 := Kb_ BK475 hb; replace HB := Ks_ HB hb; clear hb hbox hg; have hnb23 := NB482_473.out; have hnc23 := NB473_482.out; have hnb24 := NB482_474.out; have hnc24 := NB474_482.out; have hnb25 := NB482_475.out; have hnc25 := NB475_482.out; have hcz26_0 : w22.cell? ⟨gb482, 0, none⟩ = some (.int .u64 0) := (blk_cell BK482.out 0).trans rfl; have hcz26_1 : w22.cell? ⟨gb482, 1, none⟩ = some (.int .u64 0) := (blk_cell BK482.out 1).trans rfl; have hcz26_2 : w22.cell? ⟨gb482, 2, none⟩ = some (.int .u64 0) := (blk_cell BK482.out 2).trans rfl; have hcz26_3 : w22.cell? ⟨gb482, 3, none⟩ = some (.int .u64 0) := (blk_cell BK482.out 3).trans rfl; have hcz26_4 : w22.cell? ⟨gb482, 4, none⟩ = some (.int .i64 0) := (blk_cell BK482.out 4).trans rfl; have hfz26_0 := blk_frozen BK482.out 0; have hfz26_1 := blk_frozen BK482.out 1; have hfz26_2 := blk_frozen BK482.out 2; have hfz26_3 := blk_frozen BK482.out 3; have hfz26_4 := blk_frozen BK482.out 4; have hcz27_0 : w22.cell? ⟨gb474, 0, none⟩ = some (.int .u64 a1_0) := (blk_cell BK474.out 0).trans rfl; have hcz27_1 : w22.cell? ⟨gb474, 1, none⟩ = some (.int .u64 a1_1) := (blk_cell BK474.out 1).trans rfl; have hcz27_2 : w22.cell? ⟨gb474, 2, none⟩ = some (.int .u64 a1_2) := (blk_cell BK474.out 2).trans rfl; have hcz27_3 : w22.cell? ⟨gb474, 3, none⟩ = some (.int .u64 a1_3) := (blk_cell BK474.out 3).trans rfl; have hcz27_4 : w22.cell? ⟨gb474, 4, none⟩ = some (.int .i64 a1_4) := (blk_cell BK474.out 4).trans rfl; have hcz27_5 : w22.cell? ⟨gb474, 5, none⟩ = some (.bool true) := (blk_cell BK474.out 5).trans rfl; have hfz27_0 := blk_frozen BK474.out 0; have hfz27_1 := blk_frozen BK474.out 1; have hfz27_2 := blk_frozen BK474.out 2; have hfz27_3 := blk_frozen BK474.out 3; have hfz27_4 := blk_frozen BK474.out 4; have hfz27_5 := blk_frozen BK474.out 5) | ((with_reducible refine gate_callee (f := 10) rfl ?_); refine goesL_ (some 23) rfl rfl Tryd.func10 (by kernel_rfl) rfl #[.agg #[.int .u64 a1_0, .int .u64 a1_1, .int .u64 a1_2, .int .u64 a1_3, .int .i64 a1_4, .bool true]] rfl (by (try simp only [List.map_toArray, List.map_cons, List.map_nil]); first | done | rfl | (simp only [List.length_drop, List.length_take]; rfl)) ?_; (with_reducible refine (tenementlaw07_Mark_mark.calls k a1_0 a1_1 a1_2 a1_3 a1_4 true t483 t484 t485 t486 t487 _ A7.out).mono ?_); rintro e w28 ⟨rfl, hb⟩; refine ⟨_, rfl, ?_⟩; replace BK473 := Kf_ BK473 NB473_482 hb; replace BK474 := Kf_ BK474 NB474_482 hb; replace BK475 := Kf_ BK475 NB475_482 hb; replace BK482 := Aside0.mk (blk_below (g := gb482) (o := .cells #[.int .u64 t477, .int .u64 t478, .int .u64 t479, .int .u64 t480, .int .i64 t481] 26 (0, 0)) (by (with_reducible repeat (first | refine blk_drewN ?_ _ | refine blk_drew ?_ | refine blk_alloc ?_ _)); refine blk_put (cs := #[.int .u64 t477, .int .u64 t478, .int .u64 t479, .int .u64 t480, .int .i64 0]) ?_ 4 _ rfl; (with_reducible repeat (first | refine blk_drewN ?_ _ | refine blk_drew ?_ | refine blk_alloc ?_ _)); refine blk_put (cs := #[.int .u64 t477, .int .u64 t478, .int .u64 t479, .int .u64 0, .int .i64 0]) ?_ 3 _ rfl; (with_reducible repeat (first | refine blk_drewN ?_ _ | refine blk_drew ?_ | refine blk_alloc ?_ _)); refine blk_put (cs := #[.int .u64 t477, .int .u64 t478, .int .u64 0, .int .u64 0, .int .i64 0]) ?_ 2 _ rfl; (with_reducible repeat (first | refine blk_drewN ?_ _ | refine blk_drew ?_ | refine blk_alloc ?_ _)); refine blk_put (cs := #[.int .u64 t477, .int .u64 0, .int .u64 0, .int .u64 0, .int .i64 0]) ?_ 1 _ rfl; (with_reducible repeat (first | refine blk_drewN ?_ _ | refine blk_drew ?_ | refine blk_alloc ?_ _)); refine blk_put (cs := #[.int .u64 0, .int .u64 0, .int .u64 0, .int .u64 0, .int .i64 0]) ?_ 0 _ rfl; (with_reducible repeat (first | refine blk_drewN ?_ _ | refine blk_drew ?_ | refine blk_alloc ?_ _)); exact BK482.out) hb); replace HB := Kt_ HB GE482 hb; (try clear hb); (try clear hb2); (try clear hk); (try clear hi)) | ((with_reducible refine gate_dst (N := 9) rfl ?_); refine box_event ?hg (N := 9) ?hd (cs := #[.int .u64 0, .int .u64 0, .int .u64 0, .int .u64 0, .int .i64 0]) (t := 26) ?hr ?_; (case hd => rfl); (case hg => rfl); (case hr => first | (go_simp; done) | (go_simp; rfl)); intro gb488 hg w29 hbox hb; have BK488 := Aside0.mk (hbox); have GW488 := Kw_ HB hg; have GE488 := GW488; have NB473_488 := Kl_ BK473 hg; have NB488_473 := Kr_ BK473 hg; have NB474_488 := Kl_ BK474 hg; have NB488_474 := Kr_ BK474 hg; have NB475_488 := Kl_ BK475 hg; have NB488_475 := Kr_ BK475 hg; have NB482_488 := Kl_ BK482 hg; have NB488_482 := Kr_ BK482 hg; replace BK473 := Kb_ BK473 hb; replace BK474 := Kb_ BK474 hb; replace BK475 := Kb_ BK475 hb; replace BK482 := Kb_ BK482 hb; replace HB := Ks_ HB hb; clear hb hbox hg; have hnb30 := NB488_473.out; have hnc30 := NB473_488.out; have hnb31 := NB488_474.out; have hnc31 := NB474_488.out; have hnb32 := NB488_475.out; have hnc32 := NB475_488.out; have hnb33 := NB488_482.out; have hnc33 := NB482_488.out; have hcz34_0 : w29.cell? ⟨gb488, 0, none⟩ = some (.int .u64 0) := (blk_cell BK488.out 0).trans rfl; have hcz34_1 : w29.cell? ⟨gb488, 1, none⟩ = some (.int .u64 0) := (blk_cell BK488.out 1).trans rfl; have hcz34_2 : w29.cell? ⟨gb488, 2, none⟩ = some (.int .u64 0) := (blk_cell BK488.out 2).trans rfl; have hcz34_3 : w29.cell? ⟨gb488, 3, none⟩ = some (.int .u64 0) := (blk_cell BK488.out 3).trans rfl; have hcz34_4 : w29.cell? ⟨gb488, 4, none⟩ = some (.int .i64 0) := (blk_cell BK488.out 4).trans rfl; have hfz34_0 := blk_frozen BK488.out 0; have hfz34_1 := blk_frozen BK488.out 1; have hfz34_2 := blk_frozen BK488.out 2; have hfz34_3 := blk_frozen BK488.out 3; have hfz34_4 := blk_frozen BK488.out 4; have hcz35_0 : w29.cell? ⟨gb475, 0, none⟩ = some (.int .u64 a2_0) := (blk_cell BK475.out 0).trans rfl; have hcz35_1 : w29.cell? ⟨gb475, 1, none⟩ = some (.int .u64 a2_1) := (blk_cell BK475.out 1).trans rfl; have hcz35_2 : w29.cell? ⟨gb475, 2, none⟩ = some (.int .u64 a2_2) := (blk_cell BK475.out 2).trans rfl; have hcz35_3 : w29.cell? ⟨gb475, 3, none⟩ = some (.int .u64 a2_3) := (blk_cell BK475.out 3).trans rfl; have hcz35_4 : w29.cell? ⟨gb475, 4, none⟩ = some (.int .i64 a2_4) := (blk_cell BK475.out 4).trans rfl; have hcz35_5 : w29.cell? ⟨gb475, 5, none⟩ = some (.bool true) := (blk_cell BK475.out 5).trans rfl; have hfz35_0 := blk_frozen BK475.out 0; have hfz35_1 := blk_frozen BK475.out 1; have hfz35_2 := blk_frozen BK475.out 2; have hfz35_3 := blk_frozen BK475.out 3; have hfz35_4 := blk_frozen BK475.out 4; have hfz35_5 := blk_frozen BK475.out 5) | ((with_reducible refine gate_callee (f := 10) rfl ?_); refine goesL_ (some 25) rfl rfl Tryd.func10 (by kernel_rfl) rfl #[.agg #[.int .u64 a2_0, .int .u64 a2_1, .int .u64 a2_2, .int .u64 a2_3, .int .i64 a2_4, .bool true]] rfl (by (try simp only [List.map_toArray, List.map_cons, List.map_nil]); first | done | rfl | (simp only [List.length_drop, List.length_take]; rfl)) ?_; (with_reducible refine (tenementlaw07_Mark_mark.calls k a2_0 a2_1 a2_2 a2_3 a2_4 true t489 t490 t491 t492 t493 _ A8.out).mono ?_); rintro e w36 ⟨rfl, hb⟩; refine ⟨_, rfl, ?_⟩; replace BK473 := Kf_ BK473 NB473_488 hb; replace BK474 := Kf_ BK474 NB474_488 hb; replace BK475 := Kf_ BK475 NB475_488 hb; replace BK482 := Kf_ BK482 NB482_488 hb; replace BK488 := Aside0.mk (blk_below (g := gb488) (o := .cells #[.int .u64 t483, .int .u64 t484, .int .u64 t485, .int .u64 t486, .int .i64 t487] 26 (0, 0)) (by (with_reducible repeat (first | refine blk_drewN ?_ _ | refine blk_drew ?_ | refine blk_alloc ?_ _)); refine blk_put (cs := #[.int .u64 t483, .int .u64 t484, .int .u64 t485, .int .u64 t486, .int .i64 0]) ?_ 4 _ rfl; (with_reducible repeat (first | refine blk_drewN ?_ _ | refine blk_drew ?_ | refine blk_alloc ?_ _)); refine blk_put (cs := #[.int .u64 t483, .int .u64 t484, .int .u64 t485, .int .u64 0, .int .i64 0]) ?_ 3 _ rfl; (with_reducible repeat (first | refine blk_drewN ?_ _ | refine blk_drew ?_ | refine blk_alloc ?_ _)); refine blk_put (cs := #[.int .u64 t483, .int .u64 t484, .int .u64 0, .int .u64 0, .int .i64 0]) ?_ 2 _ rfl; (with_reducible repeat (first | refine blk_drewN ?_ _ | refine blk_drew ?_ | refine blk_alloc ?_ _)); refine blk_put (cs := #[.int .u64 t483, .int .u64 0, .int .u64 0, .int .u64 0, .int .i64 0]) ?_ 1 _ rfl; (with_reducible repeat (first | refine blk_drewN ?_ _ | refine blk_drew ?_ | refine blk_alloc ?_ _)); refine blk_put (cs := #[.int .u64 0, .int .u64 0, .int .u64 0, .int .u64 0, .int .i64 0]) ?_ 0 _ rfl; (with_reducible repeat (first | refine blk_drewN ?_ _ | refine blk_drew ?_ | refine blk_alloc ?_ _)); exact BK488.out) hb); replace HB := Kt_ HB GE488 hb; (try clear hb); (try clear hb2); (try clear hk); (try clear hi)) | ((with_reducible refine gate_dst (N := 10) rfl ?_); refine box_event ?hg (N := 10) ?hd (cs := #[.int .u64 0, .int .u64 0, .int .u64 0, .int .u64 0, .int .i64 0]) (t := 26) ?hr ?_; (case hd => rfl); (case hg => rfl); (case hr => first | (go_simp; done) | (go_simp; rfl)); intro gb494 hg w37 hbox hb; have BK494 := Aside0.mk (hbox); have GW494 := Kw_ HB hg; have GE494 := GW494; have NB473_494 := Kl_ BK473 hg; have NB494_473 := Kr_ BK473 hg; have NB474_494 := Kl_ BK474 hg; have NB494_474 := Kr_ BK474 hg; have NB475_494 := Kl_ BK475 hg; have NB494_475 := Kr_ BK475 hg; have NB482_494 := Kl_ BK482 hg; have NB494_482 := Kr_ BK482 hg; have NB488_494 := Kl_ BK488 hg; have NB494_488 := Kr_ BK488 hg; replace BK473 := Kb_ BK473 hb; replace BK474 := Kb_ BK474 hb; replace BK475 := Kb_ BK475 hb; replace BK482 := Kb_ BK482 hb; replace BK488 := Kb_ BK488 hb; replace HB := Ks_ HB hb; clear hb hbox hg; have hnb38 := NB494_473.out; have hnc38 := NB473_494.out; have hnb39 := NB494_474.out; have hnc39 := NB474_494.out; have hnb40 := NB494_475.out; have hnc40 := NB475_494.out; have hnb41 := NB494_482.out; have hnc41 := NB482_494.out; have hnb42 := NB494_488.out; have hnc42 := NB488_494.out; have hcz43_0 : w37.cell? ⟨gb494, 0, none⟩ = some (.int .u64 0) := (blk_cell BK494.out 0).trans rfl; have hcz43_1 : w37.cell? ⟨gb494, 1, none⟩ = some (.int .u64 0) := (blk_cell BK494.out 1).trans rfl; have hcz43_2 : w37.cell? ⟨gb494, 2, none⟩ = some (.int .u64 0) := (blk_cell BK494.out 2).trans rfl; have hcz43_3 : w37.cell? ⟨gb494, 3, none⟩ = some (.int .u64 0) := (blk_cell BK494.out 3).trans rfl; have hcz43_4 : w37.cell? ⟨gb494, 4, none⟩ = some (.int .i64 0) := (blk_cell BK494.out 4).trans rfl; have hfz43_0 := blk_frozen BK494.out 0; have hfz43_1 := blk_frozen BK494.out 1; have hfz43_2 := blk_frozen BK494.out 2; have hfz43_3 := blk_frozen BK494.out 3; have hfz43_4 := blk_frozen BK494.out 4; have hcz44_0 : w37.cell? ⟨gb482, 0, none⟩ = some (.int .u64 t477) := (blk_cell BK482.out 0).trans rfl; have hcz44_1 : w37.cell? ⟨gb482, 1, none⟩ = some (.int .u64 t478) := (blk_cell BK482.out 1).trans rfl; have hcz44_2 : w37.cell? ⟨gb482, 2, none⟩ = some (.int .u64 t479) := (blk_cell BK482.out 2).trans rfl; have hcz44_3 : w37.cell? ⟨gb482, 3, none⟩ = some (.int .u64 t480) := (blk_cell BK482.out 3).trans rfl; have hcz44_4 : w37.cell? ⟨gb482, 4, none⟩ = some (.int .i64 t481) := (blk_cell BK482.out 4).trans rfl; have hfz44_0 := blk_frozen BK482.out 0; have hfz44_1 := blk_frozen BK482.out 1; have hfz44_2 := blk_frozen BK482.out 2; have hfz44_3 := blk_frozen BK482.out 3; have hfz44_4 := blk_frozen BK482.out 4; have hcz45_0 : w37.cell? ⟨gb488, 0, none⟩ = some (.int .u64 t483) := (blk_cell BK488.out 0).trans rfl; have hcz45_1 : w37.cell? ⟨gb488, 1, none⟩ = some (.int .u64 t484) := (blk_cell BK488.out 1).trans rfl; have hcz45_2 : w37.cell? ⟨gb488, 2, none⟩ = some (.int .u64 t485) := (blk_cell BK488.out 2).trans rfl; have hcz45_3 : w37.cell? ⟨gb488, 3, none⟩ = some (.int .u64 t486) := (blk_cell BK488.out 3).trans rfl; have hcz45_4 : w37.cell? ⟨gb488, 4, none⟩ = some (.int .i64 t487) := (blk_cell BK488.out 4).trans rfl; have hfz45_0 := blk_frozen BK488.out 0; have hfz45_1 := blk_frozen BK488.out 1; have hfz45_2 := blk_frozen BK488.out 2; have hfz45_3 := blk_frozen BK488.out 3; have hfz45_4 := blk_frozen BK488.out 4) | ((with_reducible refine gate_callee (f := 21) rfl ?_); refine goesL_ (some 28) rfl rfl Tryd.func21 (by kernel_rfl) rfl #[.agg #[.int .u64 t477, .int .u64 t478, .int .u64 t479, .int .u64 t480, .int .i64 t481], .agg #[.int .u64 t483, .int .u64 t484, .int .u64 t485, .int .u64 t486, .int .i64 t487]] rfl (by (try simp only [List.map_toArray, List.map_cons, List.map_nil]); first | done | rfl | (simp only [List.length_drop, List.length_take]; rfl)) ?_; (with_reducible refine (stamp_Order.calls k t477 t478 t479 t480 t481 t483 t484 t485 t486 t487 t495 _ A9.out).mono ?_); rintro e w46 ⟨rfl, hb⟩; refine ⟨_, rfl, ?_⟩; replace BK473 := Kf_ BK473 NB473_494 hb; replace BK474 := Kf_ BK474 NB474_494 hb; replace BK475 := Kf_ BK475 NB475_494 hb; replace BK482 := Kf_ BK482 NB482_494 hb; replace BK488 := Kf_ BK488 NB488_494 hb; replace BK494 := Aside0.mk (blk_below (g := gb494) (o := .cells #[.int .u64 t489, .int .u64 t490, .int .u64 t491, .int .u64 t492, .int .i64 t493] 26 (0, 0)) (by (with_reducible repeat (first | refine blk_drewN ?_ _ | refine blk_drew ?_ | refine blk_alloc ?_ _)); refine blk_put (cs := #[.int .u64 t489, .int .u64 t490, .int .u64 t491, .int .u64 t492, .int .i64 0]) ?_ 4 _ rfl; (with_reducible repeat (first | refine blk_drewN ?_ _ | refine blk_drew ?_ | refine blk_alloc ?_ _)); refine blk_put (cs := #[.int .u64 t489, .int .u64 t490, .int .u64 t491, .int .u64 0, .int .i64 0]) ?_ 3 _ rfl; (with_reducible repeat (first | refine blk_drewN ?_ _ | refine blk_drew ?_ | refine blk_alloc ?_ _)); refine blk_put (cs := #[.int .u64 t489, .int .u64 t490, .int .u64 0, .int .u64 0, .int .i64 0]) ?_ 2 _ rfl; (with_reducible repeat (first | refine blk_drewN ?_ _ | refine blk_drew ?_ | refine blk_alloc ?_ _)); refine blk_put (cs := #[.int .u64 t489, .int .u64 0, .int .u64 0, .int .u64 0, .int .i64 0]) ?_ 1 _ rfl; (with_reducible repeat (first | refine blk_drewN ?_ _ | refine blk_drew ?_ | refine blk_alloc ?_ _)); refine blk_put (cs := #[.int .u64 0, .int .u64 0, .int .u64 0, .int .u64 0, .int .i64 0]) ?_ 0 _ rfl; (with_reducible repeat (first | refine blk_drewN ?_ _ | refine blk_drew ?_ | refine blk_alloc ?_ _)); exact BK494.out) hb); replace HB := Kt_ HB GE494 hb; (try clear hb); (try clear hb2); (try clear hk); (try clear hi)))
  (try simp only [Act.put, List.setIfInBounds_toArray, List.set_cons_zero, List.set_cons_succ])
  go_cut [12] (fun v12 wc => ∃ (kq : Nat) (x12_9 : Bool), v12 = .bool x12_9 ∧ Aside0 (tenementlaw07_StampOrder.j0 kq true t495 x12_9 t477 t478 t479 t480 t481 t483 t484 t485 t486 t487 t489 t490 t491 t492 t493 = some r) ∧ Aside0 (kq ≤ k) ∧ Aside0 (wc.heap[gb473]? = some (.cells #[.int .u64 a0_0, .int .u64 a0_1, .int .u64 a0_2, .int .u64 a0_3, .int .i64 a0_4, .bool true] 28 (0, 0))) ∧ Aside0 (wc.heap[gb474]? = some (.cells #[.int .u64 a1_0, .int .u64 a1_1, .int .u64 a1_2, .int .u64 a1_3, .int .i64 a1_4, .bool true] 28 (0, 0))) ∧ Aside0 (wc.heap[gb475]? = some (.cells #[.int .u64 a2_0, .int .u64 a2_1, .int .u64 a2_2, .int .u64 a2_3, .int .i64 a2_4, .bool true] 28 (0, 0))) ∧ Aside0 (wc.heap[gb482]? = some (.cells #[.int .u64 t477, .int .u64 t478, .int .u64 t479, .int .u64 t480, .int .i64 t481] 26 (0, 0))) ∧ Aside0 (wc.heap[gb488]? = some (.cells #[.int .u64 t483, .int .u64 t484, .int .u64 t485, .int .u64 t486, .int .i64 t487] 26 (0, 0))) ∧ Aside0 (wc.heap[gb494]? = some (.cells #[.int .u64 t489, .int .u64 t490, .int .u64 t491, .int .u64 t492, .int .i64 t493] 26 (0, 0))) ∧ Aside0 (Below w.heap.size w wc))
  case first =>
    have H := HC10.out
    clear HC10
    by_cases c47 : t495 ≤ 0
    rotate_left
    · rw [if_neg c47] at H
      have c47b0 : decide (t495 ≤ 0) = false := decide_eq_false c47
      clear c47
      (first | rw [c47b0] | (simp only [i64_w, i32_w]; rw [c47b0]) | skip)
      have H' := Aside0.mk H
      clear H
      go_wp2
      go_meet
      case rel => exact ⟨_, (false), (by first | rfl | (simp; done) | (simp [*]; done)), H', ⟨by first | omega | exact Nat.le_refl _⟩, ⟨by (with_reducible repeat (first | refine blk_drewN ?_ _ | refine blk_drew ?_ | refine blk_alloc ?_ _)); exact BK473.out⟩, ⟨by (with_reducible repeat (first | refine blk_drewN ?_ _ | refine blk_drew ?_ | refine blk_alloc ?_ _)); exact BK474.out⟩, ⟨by (with_reducible repeat (first | refine blk_drewN ?_ _ | refine blk_drew ?_ | refine blk_alloc ?_ _)); exact BK475.out⟩, ⟨by (with_reducible repeat (first | refine blk_drewN ?_ _ | refine blk_drew ?_ | refine blk_alloc ?_ _)); exact BK482.out⟩, ⟨by (with_reducible repeat (first | refine blk_drewN ?_ _ | refine blk_drew ?_ | refine blk_alloc ?_ _)); exact BK488.out⟩, ⟨by (with_reducible repeat (first | refine blk_drewN ?_ _ | refine blk_drew ?_ | refine blk_alloc ?_ _)); exact BK494.out⟩, ⟨by repeat (first | (with_reducible first | exact HB.out | apply below_alloc | apply pw_below_drewN | apply below_drew1 | refine below_set ?_ GE473.out | refine below_set ?_ GE474.out | refine below_set ?_ GE475.out | refine below_set ?_ GE482.out | refine below_set ?_ GE488.out | refine below_set ?_ GE494.out) | exact HB.out)⟩⟩
    rw [if_pos c47] at H
    have c47b0 : decide (t495 ≤ 0) = true := decide_eq_true c47
    clear c47
    (first | rw [c47b0] | (simp only [i64_w, i32_w]; rw [c47b0]) | skip)
    replace H := Option.bind_eq_some_iff.mp H
    obtain ⟨t496, A480, H⟩ := H
    replace H : (if t496 ≤ 0 then ((stamp_Order.f k t477 t478 t479 t480 t481 t489 t490 t491 t492 t493).bind fun t497 => (tenementlaw07_StampOrder.j0 k true t495 (decide (t497 > 0)) t477 t478 t479 t480 t481 t483 t484 t485 t486 t487 t489 t490 t491 t492 t493)) else (tenementlaw07_StampOrder.j0 k true t495 false t477 t478 t479 t480 t481 t483 t484 t485 t486 t487 t489 t490 t491 t492 t493)) = some r := H
    have A48 := Aside0.mk A480
    clear A480
    by_cases c49 : t496 ≤ 0
    rotate_left
    · rw [if_neg c49] at H
      have c49b0 : decide (t496 ≤ 0) = false := decide_eq_false c49
      clear c49
      have H' := Aside0.mk H
      clear H
      have hnb69 := NB488_473.out
      have hnc69 := NB473_488.out
      have hnb70 := NB488_474.out
      have hnc70 := NB474_488.out
      have hnb71 := NB488_475.out
      have hnc71 := NB475_488.out
      have hnb72 := NB488_482.out
      have hnc72 := NB482_488.out
      have hnb73 := NB488_494.out
      have hnc73 := NB494_488.out
      have hcz74_0 : w46.cell? ⟨gb488, 0, none⟩ = some (.int .u64 t483) := (blk_cell BK488.out 0).trans rfl
      have hcz74_1 : w46.cell? ⟨gb488, 1, none⟩ = some (.int .u64 t484) := (blk_cell BK488.out 1).trans rfl
      have hcz74_2 : w46.cell? ⟨gb488, 2, none⟩ = some (.int .u64 t485) := (blk_cell BK488.out 2).trans rfl
      have hcz74_3 : w46.cell? ⟨gb488, 3, none⟩ = some (.int .u64 t486) := (blk_cell BK488.out 3).trans rfl
      have hcz74_4 : w46.cell? ⟨gb488, 4, none⟩ = some (.int .i64 t487) := (blk_cell BK488.out 4).trans rfl
      have hfz74_0 := blk_frozen BK488.out 0
      have hfz74_1 := blk_frozen BK488.out 1
      have hfz74_2 := blk_frozen BK488.out 2
      have hfz74_3 := blk_frozen BK488.out 3
      have hfz74_4 := blk_frozen BK488.out 4
      have hnb75 := NB494_473.out
      have hnc75 := NB473_494.out
      have hnb76 := NB494_474.out
      have hnc76 := NB474_494.out
      have hnb77 := NB494_475.out
      have hnc77 := NB475_494.out
      have hnb78 := NB494_482.out
      have hnc78 := NB482_494.out
      have hcz79_0 : w46.cell? ⟨gb494, 0, none⟩ = some (.int .u64 t489) := (blk_cell BK494.out 0).trans rfl
      have hcz79_1 : w46.cell? ⟨gb494, 1, none⟩ = some (.int .u64 t490) := (blk_cell BK494.out 1).trans rfl
      have hcz79_2 : w46.cell? ⟨gb494, 2, none⟩ = some (.int .u64 t491) := (blk_cell BK494.out 2).trans rfl
      have hcz79_3 : w46.cell? ⟨gb494, 3, none⟩ = some (.int .u64 t492) := (blk_cell BK494.out 3).trans rfl
      have hcz79_4 : w46.cell? ⟨gb494, 4, none⟩ = some (.int .i64 t493) := (blk_cell BK494.out 4).trans rfl
      have hfz79_0 := blk_frozen BK494.out 0
      have hfz79_1 := blk_frozen BK494.out 1
      have hfz79_2 := blk_frozen BK494.out 2
      have hfz79_3 := blk_frozen BK494.out 3
      have hfz79_4 := blk_frozen BK494.out 4
      go_wp2_with (first | (go_at_call 21; (with_reducible refine (stamp_Order.calls k t483 t484 t485 t486 t487 t489 t490 t491 t492 t493 t496 _ A48.out).mono ?_); rintro e w80 ⟨rfl, hb⟩; replace BK473 := Kb_ BK473 hb; replace BK474 := Kb_ BK474 hb; replace BK475 := Kb_ BK475 hb; replace BK482 := Kb_ BK482 hb; replace BK488 := Kb_ BK488 hb; replace BK494 := Kb_ BK494 hb; replace HB := Ks_ HB hb; (try clear hb); (try clear hb2); (try clear hk); (try clear hi)))
      go_meet
      case rel => exact ⟨_, (false), (by first | rfl | (simp; done) | (simp [*]; done)), H', ⟨by first | omega | exact Nat.le_refl _⟩, ⟨by (with_reducible repeat (first | refine blk_drewN ?_ _ | refine blk_drew ?_ | refine blk_alloc ?_ _)); exact BK473.out⟩, ⟨by (with_reducible repeat (first | refine blk_drewN ?_ _ | refine blk_drew ?_ | refine blk_alloc ?_ _)); exact BK474.out⟩, ⟨by (with_reducible repeat (first | refine blk_drewN ?_ _ | refine blk_drew ?_ | refine blk_alloc ?_ _)); exact BK475.out⟩, ⟨by (with_reducible repeat (first | refine blk_drewN ?_ _ | refine blk_drew ?_ | refine blk_alloc ?_ _)); exact BK482.out⟩, ⟨by (with_reducible repeat (first | refine blk_drewN ?_ _ | refine blk_drew ?_ | refine blk_alloc ?_ _)); exact BK488.out⟩, ⟨by (with_reducible repeat (first | refine blk_drewN ?_ _ | refine blk_drew ?_ | refine blk_alloc ?_ _)); exact BK494.out⟩, ⟨by repeat (first | (with_reducible first | exact HB.out | apply below_alloc | apply pw_below_drewN | apply below_drew1 | refine below_set ?_ GE473.out | refine below_set ?_ GE474.out | refine below_set ?_ GE475.out | refine below_set ?_ GE482.out | refine below_set ?_ GE488.out | refine below_set ?_ GE494.out) | exact HB.out)⟩⟩
    rw [if_pos c49] at H
    have c49b0 : decide (t496 ≤ 0) = true := decide_eq_true c49
    clear c49
    replace H := Option.bind_eq_some_iff.mp H
    obtain ⟨t497, A500, H⟩ := H
    replace H : (tenementlaw07_StampOrder.j0 k true t495 (decide (t497 > 0)) t477 t478 t479 t480 t481 t483 t484 t485 t486 t487 t489 t490 t491 t492 t493) = some r := H
    have A50 := Aside0.mk A500
    clear A500
    have H' := Aside0.mk H
    clear H
    have hnb51 := NB488_473.out
    have hnc51 := NB473_488.out
    have hnb52 := NB488_474.out
    have hnc52 := NB474_488.out
    have hnb53 := NB488_475.out
    have hnc53 := NB475_488.out
    have hnb54 := NB488_482.out
    have hnc54 := NB482_488.out
    have hnb55 := NB488_494.out
    have hnc55 := NB494_488.out
    have hcz56_0 : w46.cell? ⟨gb488, 0, none⟩ = some (.int .u64 t483) := (blk_cell BK488.out 0).trans rfl
    have hcz56_1 : w46.cell? ⟨gb488, 1, none⟩ = some (.int .u64 t484) := (blk_cell BK488.out 1).trans rfl
    have hcz56_2 : w46.cell? ⟨gb488, 2, none⟩ = some (.int .u64 t485) := (blk_cell BK488.out 2).trans rfl
    have hcz56_3 : w46.cell? ⟨gb488, 3, none⟩ = some (.int .u64 t486) := (blk_cell BK488.out 3).trans rfl
    have hcz56_4 : w46.cell? ⟨gb488, 4, none⟩ = some (.int .i64 t487) := (blk_cell BK488.out 4).trans rfl
    have hfz56_0 := blk_frozen BK488.out 0
    have hfz56_1 := blk_frozen BK488.out 1
    have hfz56_2 := blk_frozen BK488.out 2
    have hfz56_3 := blk_frozen BK488.out 3
    have hfz56_4 := blk_frozen BK488.out 4
    have hnb57 := NB494_473.out
    have hnc57 := NB473_494.out
    have hnb58 := NB494_474.out
    have hnc58 := NB474_494.out
    have hnb59 := NB494_475.out
    have hnc59 := NB475_494.out
    have hnb60 := NB494_482.out
    have hnc60 := NB482_494.out
    have hcz61_0 : w46.cell? ⟨gb494, 0, none⟩ = some (.int .u64 t489) := (blk_cell BK494.out 0).trans rfl
    have hcz61_1 : w46.cell? ⟨gb494, 1, none⟩ = some (.int .u64 t490) := (blk_cell BK494.out 1).trans rfl
    have hcz61_2 : w46.cell? ⟨gb494, 2, none⟩ = some (.int .u64 t491) := (blk_cell BK494.out 2).trans rfl
    have hcz61_3 : w46.cell? ⟨gb494, 3, none⟩ = some (.int .u64 t492) := (blk_cell BK494.out 3).trans rfl
    have hcz61_4 : w46.cell? ⟨gb494, 4, none⟩ = some (.int .i64 t493) := (blk_cell BK494.out 4).trans rfl
    have hfz61_0 := blk_frozen BK494.out 0
    have hfz61_1 := blk_frozen BK494.out 1
    have hfz61_2 := blk_frozen BK494.out 2
    have hfz61_3 := blk_frozen BK494.out 3
    have hfz61_4 := blk_frozen BK494.out 4
    go_wp2_with (first | (go_at_call 21; (with_reducible refine (stamp_Order.calls k t483 t484 t485 t486 t487 t489 t490 t491 t492 t493 t496 _ A48.out).mono ?_); rintro e w62 ⟨rfl, hb⟩; replace BK473 := Kb_ BK473 hb; replace BK474 := Kb_ BK474 hb; replace BK475 := Kb_ BK475 hb; replace BK482 := Kb_ BK482 hb; replace BK488 := Kb_ BK488 hb; replace BK494 := Kb_ BK494 hb; replace HB := Ks_ HB hb; (try clear hb); (try clear hb2); (try clear hk); (try clear hi); have hnb63 := NB482_473.out; have hnc63 := NB473_482.out; have hnb64 := NB482_474.out; have hnc64 := NB474_482.out; have hnb65 := NB482_475.out; have hnc65 := NB475_482.out; have hcz66_0 : w62.cell? ⟨gb482, 0, none⟩ = some (.int .u64 t477) := (blk_cell BK482.out 0).trans rfl; have hcz66_1 : w62.cell? ⟨gb482, 1, none⟩ = some (.int .u64 t478) := (blk_cell BK482.out 1).trans rfl; have hcz66_2 : w62.cell? ⟨gb482, 2, none⟩ = some (.int .u64 t479) := (blk_cell BK482.out 2).trans rfl; have hcz66_3 : w62.cell? ⟨gb482, 3, none⟩ = some (.int .u64 t480) := (blk_cell BK482.out 3).trans rfl; have hcz66_4 : w62.cell? ⟨gb482, 4, none⟩ = some (.int .i64 t481) := (blk_cell BK482.out 4).trans rfl; have hfz66_0 := blk_frozen BK482.out 0; have hfz66_1 := blk_frozen BK482.out 1; have hfz66_2 := blk_frozen BK482.out 2; have hfz66_3 := blk_frozen BK482.out 3; have hfz66_4 := blk_frozen BK482.out 4; have hcz67_0 : w62.cell? ⟨gb494, 0, none⟩ = some (.int .u64 t489) := (blk_cell BK494.out 0).trans rfl; have hcz67_1 : w62.cell? ⟨gb494, 1, none⟩ = some (.int .u64 t490) := (blk_cell BK494.out 1).trans rfl; have hcz67_2 : w62.cell? ⟨gb494, 2, none⟩ = some (.int .u64 t491) := (blk_cell BK494.out 2).trans rfl; have hcz67_3 : w62.cell? ⟨gb494, 3, none⟩ = some (.int .u64 t492) := (blk_cell BK494.out 3).trans rfl; have hcz67_4 : w62.cell? ⟨gb494, 4, none⟩ = some (.int .i64 t493) := (blk_cell BK494.out 4).trans rfl; have hfz67_0 := blk_frozen BK494.out 0; have hfz67_1 := blk_frozen BK494.out 1; have hfz67_2 := blk_frozen BK494.out 2; have hfz67_3 := blk_frozen BK494.out 3; have hfz67_4 := blk_frozen BK494.out 4) | (go_at_call 21; (with_reducible refine (stamp_Order.calls k t477 t478 t479 t480 t481 t489 t490 t491 t492 t493 t497 _ A50.out).mono ?_); rintro e w68 ⟨rfl, hb⟩; replace BK473 := Kb_ BK473 hb; replace BK474 := Kb_ BK474 hb; replace BK475 := Kb_ BK475 hb; replace BK482 := Kb_ BK482 hb; replace BK488 := Kb_ BK488 hb; replace BK494 := Kb_ BK494 hb; replace HB := Ks_ HB hb; (try clear hb); (try clear hb2); (try clear hk); (try clear hi)))
    go_meet
    case rel => exact ⟨_, (decide (t497 > 0)), (by first | rfl | (simp; done) | (simp [*]; done)), H', ⟨by first | omega | exact Nat.le_refl _⟩, ⟨by (with_reducible repeat (first | refine blk_drewN ?_ _ | refine blk_drew ?_ | refine blk_alloc ?_ _)); exact BK473.out⟩, ⟨by (with_reducible repeat (first | refine blk_drewN ?_ _ | refine blk_drew ?_ | refine blk_alloc ?_ _)); exact BK474.out⟩, ⟨by (with_reducible repeat (first | refine blk_drewN ?_ _ | refine blk_drew ?_ | refine blk_alloc ?_ _)); exact BK475.out⟩, ⟨by (with_reducible repeat (first | refine blk_drewN ?_ _ | refine blk_drew ?_ | refine blk_alloc ?_ _)); exact BK482.out⟩, ⟨by (with_reducible repeat (first | refine blk_drewN ?_ _ | refine blk_drew ?_ | refine blk_alloc ?_ _)); exact BK488.out⟩, ⟨by (with_reducible repeat (first | refine blk_drewN ?_ _ | refine blk_drew ?_ | refine blk_alloc ?_ _)); exact BK494.out⟩, ⟨by repeat (first | (with_reducible first | exact HB.out | apply below_alloc | apply pw_below_drewN | apply below_drew1 | refine below_set ?_ GE473.out | refine below_set ?_ GE474.out | refine below_set ?_ GE475.out | refine below_set ?_ GE482.out | refine below_set ?_ GE488.out | refine below_set ?_ GE494.out) | exact HB.out)⟩⟩
  case rest =>
    clear HC10
    try clear c1
    try clear c2
    try clear p2
    try clear c3
    try clear c4
    try clear c5
    try clear c6
    try clear c7
    try clear c9
    try clear c10
    try clear c15
    try clear c16
    try clear c18
    try clear c21
    try clear c23
    try clear c24
    try clear c25
    try clear c30
    try clear c31
    try clear c32
    try clear c33
    try clear c38
    try clear c39
    try clear c40
    try clear c41
    try clear c42
    try clear c47
    try clear c47b0
    try clear c49
    try clear c49b0
    try clear c51
    try clear c52
    try clear c53
    try clear c54
    try clear c55
    try clear c57
    try clear c58
    try clear c59
    try clear c60
    try clear c63
    try clear c64
    try clear c65
    try clear c69
    try clear c70
    try clear c71
    try clear c72
    try clear c73
    try clear c75
    try clear c76
    try clear c77
    try clear c78
    try clear hcz17_0
    try clear hcz17_1
    try clear hcz17_2
    try clear hcz17_3
    try clear hcz17_4
    try clear hcz17_5
    try clear hcz19_0
    try clear hcz19_1
    try clear hcz19_2
    try clear hcz19_3
    try clear hcz19_4
    try clear hcz19_5
    try clear hcz20_0
    try clear hcz20_1
    try clear hcz20_2
    try clear hcz20_3
    try clear hcz20_4
    try clear hcz20_5
    try clear hcz26_0
    try clear hcz26_1
    try clear hcz26_2
    try clear hcz26_3
    try clear hcz26_4
    try clear hcz27_0
    try clear hcz27_1
    try clear hcz27_2
    try clear hcz27_3
    try clear hcz27_4
    try clear hcz27_5
    try clear hcz34_0
    try clear hcz34_1
    try clear hcz34_2
    try clear hcz34_3
    try clear hcz34_4
    try clear hcz35_0
    try clear hcz35_1
    try clear hcz35_2
    try clear hcz35_3
    try clear hcz35_4
    try clear hcz35_5
    try clear hcz43_0
    try clear hcz43_1
    try clear hcz43_2
    try clear hcz43_3
    try clear hcz43_4
    try clear hcz44_0
    try clear hcz44_1
    try clear hcz44_2
    try clear hcz44_3
    try clear hcz44_4
    try clear hcz45_0
    try clear hcz45_1
    try clear hcz45_2
    try clear hcz45_3
    try clear hcz45_4
    try clear hcz56_0
    try clear hcz56_1
    try clear hcz56_2
    try clear hcz56_3
    try clear hcz56_4
    try clear hcz61_0
    try clear hcz61_1
    try clear hcz61_2
    try clear hcz61_3
    try clear hcz61_4
    try clear hcz66_0
    try clear hcz66_1
    try clear hcz66_2
    try clear hcz66_3
    try clear hcz66_4
    try clear hcz67_0
    try clear hcz67_1
    try clear hcz67_2
    try clear hcz67_3
    try clear hcz67_4
    try clear hcz74_0
    try clear hcz74_1
    try clear hcz74_2
    try clear hcz74_3
    try clear hcz74_4
    try clear hcz79_0
    try clear hcz79_1
    try clear hcz79_2
    try clear hcz79_3
    try clear hcz79_4
    try clear hfz17_0
    try clear hfz17_1
    try clear hfz17_2
    try clear hfz17_3
    try clear hfz17_4
    try clear hfz17_5
    try clear hfz19_0
    try clear hfz19_1
    try clear hfz19_2
    try clear hfz19_3
    try clear hfz19_4
    try clear hfz19_5
    try clear hfz20_0
    try clear hfz20_1
    try clear hfz20_2
    try clear hfz20_3
    try clear hfz20_4
    try clear hfz20_5
    try clear hfz26_0
    try clear hfz26_1
    try clear hfz26_2
    try clear hfz26_3
    try clear hfz26_4
    try clear hfz27_0
    try clear hfz27_1
    try clear hfz27_2
    try clear hfz27_3
    try clear hfz27_4
    try clear hfz27_5
    try clear hfz34_0
    try clear hfz34_1
    try clear hfz34_2
    try clear hfz34_3
    try clear hfz34_4
    try clear hfz35_0
    try clear hfz35_1
    try clear hfz35_2
    try clear hfz35_3
    try clear hfz35_4
    try clear hfz35_5
    try clear hfz43_0
    try clear hfz43_1
    try clear hfz43_2
    try clear hfz43_3
    try clear hfz43_4
    try clear hfz44_0
    try clear hfz44_1
    try clear hfz44_2
    try clear hfz44_3
    try clear hfz44_4
    try clear hfz45_0
    try clear hfz45_1
    try clear hfz45_2
    try clear hfz45_3
    try clear hfz45_4
    try clear hfz56_0
    try clear hfz56_1
    try clear hfz56_2
    try clear hfz56_3
    try clear hfz56_4
    try clear hfz61_0
    try clear hfz61_1
    try clear hfz61_2
    try clear hfz61_3
    try clear hfz61_4
    try clear hfz66_0
    try clear hfz66_1
    try clear hfz66_2
    try clear hfz66_3
    try clear hfz66_4
    try clear hfz67_0
    try clear hfz67_1
    try clear hfz67_2
    try clear hfz67_3
    try clear hfz67_4
    try clear hfz74_0
    try clear hfz74_1
    try clear hfz74_2
    try clear hfz74_3
    try clear hfz74_4
    try clear hfz79_0
    try clear hfz79_1
    try clear hfz79_2
    try clear hfz79_3
    try clear hfz79_4
    obtain ⟨kq, x12_9, rfl, HA, HJ9, BK473, BK474, BK475, BK482, BK488, BK494, HB⟩ := hcut
    cases kq with
    | zero => exact absurd HA.out (by simp [tenementlaw07_StampOrder.j0])
    | succ kj9 =>
      have H := HA.out
      clear HA
      simp only [tenementlaw07_StampOrder.j0] at H
      have HC81 := Aside0.mk H
      clear H
      go_upto_region 12 with (fail)
      go_cut [13] (fun v13 wc => ∃ (kq : Nat) (x13_80 : Bool), v13 = .bool x13_80 ∧ Aside0 (tenementlaw07_StampOrder.j1 kq true t495 x12_9 x13_80 t477 t478 t479 t480 t481 t483 t484 t485 t486 t487 t489 t490 t491 t492 t493 = some r) ∧ Aside0 (kq ≤ kj9) ∧ Aside0 (wc.heap[gb473]? = some (.cells #[.int .u64 a0_0, .int .u64 a0_1, .int .u64 a0_2, .int .u64 a0_3, .int .i64 a0_4, .bool true] 28 (0, 0))) ∧ Aside0 (wc.heap[gb474]? = some (.cells #[.int .u64 a1_0, .int .u64 a1_1, .int .u64 a1_2, .int .u64 a1_3, .int .i64 a1_4, .bool true] 28 (0, 0))) ∧ Aside0 (wc.heap[gb475]? = some (.cells #[.int .u64 a2_0, .int .u64 a2_1, .int .u64 a2_2, .int .u64 a2_3, .int .i64 a2_4, .bool true] 28 (0, 0))) ∧ Aside0 (wc.heap[gb482]? = some (.cells #[.int .u64 t477, .int .u64 t478, .int .u64 t479, .int .u64 t480, .int .i64 t481] 26 (0, 0))) ∧ Aside0 (wc.heap[gb488]? = some (.cells #[.int .u64 t483, .int .u64 t484, .int .u64 t485, .int .u64 t486, .int .i64 t487] 26 (0, 0))) ∧ Aside0 (wc.heap[gb494]? = some (.cells #[.int .u64 t489, .int .u64 t490, .int .u64 t491, .int .u64 t492, .int .i64 t493] 26 (0, 0))) ∧ Aside0 (Below w.heap.size w wc))
      case first =>
        have H := HC81.out
        clear HC81
        replace H := Option.bind_eq_some_iff.mp H
        obtain ⟨t498, A820, H⟩ := H
        replace H : (if t498 = true then (tenementlaw07_StampOrder.j1 kj9 true t495 x12_9 (!(t477 == t483) || (!(t478 == t484) || (!(t479 == t485) || (!(t480 == t486))))) t477 t478 t479 t480 t481 t483 t484 t485 t486 t487 t489 t490 t491 t492 t493) else (tenementlaw07_StampOrder.j1 kj9 true t495 x12_9 false t477 t478 t479 t480 t481 t483 t484 t485 t486 t487 t489 t490 t491 t492 t493)) = some r := H
        have A82 := Aside0.mk A820
        clear A820
        by_cases c83 : t498 = true
        rotate_left
        · replace c83 := Bool.eq_false_iff.mpr c83
          subst c83
          have H1 : (tenementlaw07_StampOrder.j1 kj9 true t495 x12_9 false t477 t478 t479 t480 t481 t483 t484 t485 t486 t487 t489 t490 t491 t492 t493) = some r := by rw [if_neg (show ¬ (false = true) by decide)] at H; exact H
          clear H
          have H := H1
          clear H1
          have H' := Aside0.mk H
          clear H
          have hnb98 := NB482_473.out
          have hnc98 := NB473_482.out
          have hnb99 := NB482_474.out
          have hnc99 := NB474_482.out
          have hnb100 := NB482_475.out
          have hnc100 := NB475_482.out
          have hnb101 := NB482_488.out
          have hnc101 := NB488_482.out
          have hnb102 := NB482_494.out
          have hnc102 := NB494_482.out
          have hcz103_0 : wc.cell? ⟨gb482, 0, none⟩ = some (.int .u64 t477) := (blk_cell BK482.out 0).trans rfl
          have hcz103_1 : wc.cell? ⟨gb482, 1, none⟩ = some (.int .u64 t478) := (blk_cell BK482.out 1).trans rfl
          have hcz103_2 : wc.cell? ⟨gb482, 2, none⟩ = some (.int .u64 t479) := (blk_cell BK482.out 2).trans rfl
          have hcz103_3 : wc.cell? ⟨gb482, 3, none⟩ = some (.int .u64 t480) := (blk_cell BK482.out 3).trans rfl
          have hcz103_4 : wc.cell? ⟨gb482, 4, none⟩ = some (.int .i64 t481) := (blk_cell BK482.out 4).trans rfl
          have hfz103_0 := blk_frozen BK482.out 0
          have hfz103_1 := blk_frozen BK482.out 1
          have hfz103_2 := blk_frozen BK482.out 2
          have hfz103_3 := blk_frozen BK482.out 3
          have hfz103_4 := blk_frozen BK482.out 4
          have hnb104 := NB488_473.out
          have hnc104 := NB473_488.out
          have hnb105 := NB488_474.out
          have hnc105 := NB474_488.out
          have hnb106 := NB488_475.out
          have hnc106 := NB475_488.out
          have hnb107 := NB488_494.out
          have hnc107 := NB494_488.out
          have hcz108_0 : wc.cell? ⟨gb488, 0, none⟩ = some (.int .u64 t483) := (blk_cell BK488.out 0).trans rfl
          have hcz108_1 : wc.cell? ⟨gb488, 1, none⟩ = some (.int .u64 t484) := (blk_cell BK488.out 1).trans rfl
          have hcz108_2 : wc.cell? ⟨gb488, 2, none⟩ = some (.int .u64 t485) := (blk_cell BK488.out 2).trans rfl
          have hcz108_3 : wc.cell? ⟨gb488, 3, none⟩ = some (.int .u64 t486) := (blk_cell BK488.out 3).trans rfl
          have hcz108_4 : wc.cell? ⟨gb488, 4, none⟩ = some (.int .i64 t487) := (blk_cell BK488.out 4).trans rfl
          have hfz108_0 := blk_frozen BK488.out 0
          have hfz108_1 := blk_frozen BK488.out 1
          have hfz108_2 := blk_frozen BK488.out 2
          have hfz108_3 := blk_frozen BK488.out 3
          have hfz108_4 := blk_frozen BK488.out 4
          go_wp2_with (first | ((with_reducible refine gate_callee (f := 23) rfl ?_); refine goesL_ (some 46) rfl rfl Tryd.func23 (by kernel_rfl) rfl #[.agg #[.int .u64 t477, .int .u64 t478, .int .u64 t479, .int .u64 t480, .int .i64 t481], .agg #[.int .u64 t483, .int .u64 t484, .int .u64 t485, .int .u64 t486]] rfl (by (try simp only [List.map_toArray, List.map_cons, List.map_nil]); first | done | rfl | (simp only [List.length_drop, List.length_take]; rfl)) ?_; (with_reducible refine (stamp_Seen.calls t477 t478 t479 t480 t481 t483 t484 t485 t486 false _ A82.out).mono ?_); rintro e w109 ⟨rfl, hb⟩; refine ⟨_, rfl, ?_⟩; replace BK473 := Kb_ BK473 hb; replace BK474 := Kb_ BK474 hb; replace BK475 := Kb_ BK475 hb; replace BK482 := Kb_ BK482 hb; replace BK488 := Kb_ BK488 hb; replace BK494 := Kb_ BK494 hb; replace HB := Ks_ HB hb; (try clear hb); (try clear hb2); (try clear hk); (try clear hi)))
          go_meet
          case rel => exact ⟨_, (false), (by first | rfl | (simp; done) | (simp [*]; done)), H', ⟨by have := HJ9.out; first | omega | exact Nat.le_refl _⟩, ⟨by (with_reducible repeat (first | refine blk_drewN ?_ _ | refine blk_drew ?_ | refine blk_alloc ?_ _)); exact BK473.out⟩, ⟨by (with_reducible repeat (first | refine blk_drewN ?_ _ | refine blk_drew ?_ | refine blk_alloc ?_ _)); exact BK474.out⟩, ⟨by (with_reducible repeat (first | refine blk_drewN ?_ _ | refine blk_drew ?_ | refine blk_alloc ?_ _)); exact BK475.out⟩, ⟨by (with_reducible repeat (first | refine blk_drewN ?_ _ | refine blk_drew ?_ | refine blk_alloc ?_ _)); exact BK482.out⟩, ⟨by (with_reducible repeat (first | refine blk_drewN ?_ _ | refine blk_drew ?_ | refine blk_alloc ?_ _)); exact BK488.out⟩, ⟨by (with_reducible repeat (first | refine blk_drewN ?_ _ | refine blk_drew ?_ | refine blk_alloc ?_ _)); exact BK494.out⟩, ⟨by repeat (first | (with_reducible first | exact HB.out | apply below_alloc | apply pw_below_drewN | apply below_drew1 | refine below_set ?_ GE473.out | refine below_set ?_ GE474.out | refine below_set ?_ GE475.out | refine below_set ?_ GE482.out | refine below_set ?_ GE488.out | refine below_set ?_ GE494.out) | exact HB.out)⟩⟩
        subst c83
        have H1 : (tenementlaw07_StampOrder.j1 kj9 true t495 x12_9 (!(t477 == t483) || (!(t478 == t484) || (!(t479 == t485) || (!(t480 == t486))))) t477 t478 t479 t480 t481 t483 t484 t485 t486 t487 t489 t490 t491 t492 t493) = some r := by rw [if_pos rfl] at H; exact H
        clear H
        have H := H1
        clear H1
        have H' := Aside0.mk H
        clear H
        have hnb84 := NB482_473.out
        have hnc84 := NB473_482.out
        have hnb85 := NB482_474.out
        have hnc85 := NB474_482.out
        have hnb86 := NB482_475.out
        have hnc86 := NB475_482.out
        have hnb87 := NB482_488.out
        have hnc87 := NB488_482.out
        have hnb88 := NB482_494.out
        have hnc88 := NB494_482.out
        have hcz89_0 : wc.cell? ⟨gb482, 0, none⟩ = some (.int .u64 t477) := (blk_cell BK482.out 0).trans rfl
        have hcz89_1 : wc.cell? ⟨gb482, 1, none⟩ = some (.int .u64 t478) := (blk_cell BK482.out 1).trans rfl
        have hcz89_2 : wc.cell? ⟨gb482, 2, none⟩ = some (.int .u64 t479) := (blk_cell BK482.out 2).trans rfl
        have hcz89_3 : wc.cell? ⟨gb482, 3, none⟩ = some (.int .u64 t480) := (blk_cell BK482.out 3).trans rfl
        have hcz89_4 : wc.cell? ⟨gb482, 4, none⟩ = some (.int .i64 t481) := (blk_cell BK482.out 4).trans rfl
        have hfz89_0 := blk_frozen BK482.out 0
        have hfz89_1 := blk_frozen BK482.out 1
        have hfz89_2 := blk_frozen BK482.out 2
        have hfz89_3 := blk_frozen BK482.out 3
        have hfz89_4 := blk_frozen BK482.out 4
        have hnb90 := NB488_473.out
        have hnc90 := NB473_488.out
        have hnb91 := NB488_474.out
        have hnc91 := NB474_488.out
        have hnb92 := NB488_475.out
        have hnc92 := NB475_488.out
        have hnb93 := NB488_494.out
        have hnc93 := NB494_488.out
        have hcz94_0 : wc.cell? ⟨gb488, 0, none⟩ = some (.int .u64 t483) := (blk_cell BK488.out 0).trans rfl
        have hcz94_1 : wc.cell? ⟨gb488, 1, none⟩ = some (.int .u64 t484) := (blk_cell BK488.out 1).trans rfl
        have hcz94_2 : wc.cell? ⟨gb488, 2, none⟩ = some (.int .u64 t485) := (blk_cell BK488.out 2).trans rfl
        have hcz94_3 : wc.cell? ⟨gb488, 3, none⟩ = some (.int .u64 t486) := (blk_cell BK488.out 3).trans rfl
        have hcz94_4 : wc.cell? ⟨gb488, 4, none⟩ = some (.int .i64 t487) := (blk_cell BK488.out 4).trans rfl
        have hfz94_0 := blk_frozen BK488.out 0
        have hfz94_1 := blk_frozen BK488.out 1
        have hfz94_2 := blk_frozen BK488.out 2
        have hfz94_3 := blk_frozen BK488.out 3
        have hfz94_4 := blk_frozen BK488.out 4
        go_wp2_with (first | ((with_reducible refine gate_callee (f := 23) rfl ?_); refine goesL_ (some 46) rfl rfl Tryd.func23 (by kernel_rfl) rfl #[.agg #[.int .u64 t477, .int .u64 t478, .int .u64 t479, .int .u64 t480, .int .i64 t481], .agg #[.int .u64 t483, .int .u64 t484, .int .u64 t485, .int .u64 t486]] rfl (by (try simp only [List.map_toArray, List.map_cons, List.map_nil]); first | done | rfl | (simp only [List.length_drop, List.length_take]; rfl)) ?_; (with_reducible refine (stamp_Seen.calls t477 t478 t479 t480 t481 t483 t484 t485 t486 true _ A82.out).mono ?_); rintro e w95 ⟨rfl, hb⟩; refine ⟨_, rfl, ?_⟩; replace BK473 := Kb_ BK473 hb; replace BK474 := Kb_ BK474 hb; replace BK475 := Kb_ BK475 hb; replace BK482 := Kb_ BK482 hb; replace BK488 := Kb_ BK488 hb; replace BK494 := Kb_ BK494 hb; replace HB := Ks_ HB hb; (try clear hb); (try clear hb2); (try clear hk); (try clear hi); have hcz96_0 : w95.cell? ⟨gb482, 0, none⟩ = some (.int .u64 t477) := (blk_cell BK482.out 0).trans rfl; have hcz96_1 : w95.cell? ⟨gb482, 1, none⟩ = some (.int .u64 t478) := (blk_cell BK482.out 1).trans rfl; have hcz96_2 : w95.cell? ⟨gb482, 2, none⟩ = some (.int .u64 t479) := (blk_cell BK482.out 2).trans rfl; have hcz96_3 : w95.cell? ⟨gb482, 3, none⟩ = some (.int .u64 t480) := (blk_cell BK482.out 3).trans rfl; have hcz96_4 : w95.cell? ⟨gb482, 4, none⟩ = some (.int .i64 t481) := (blk_cell BK482.out 4).trans rfl; have hfz96_0 := blk_frozen BK482.out 0; have hfz96_1 := blk_frozen BK482.out 1; have hfz96_2 := blk_frozen BK482.out 2; have hfz96_3 := blk_frozen BK482.out 3; have hfz96_4 := blk_frozen BK482.out 4; have hcz97_0 : w95.cell? ⟨gb488, 0, none⟩ = some (.int .u64 t483) := (blk_cell BK488.out 0).trans rfl; have hcz97_1 : w95.cell? ⟨gb488, 1, none⟩ = some (.int .u64 t484) := (blk_cell BK488.out 1).trans rfl; have hcz97_2 : w95.cell? ⟨gb488, 2, none⟩ = some (.int .u64 t485) := (blk_cell BK488.out 2).trans rfl; have hcz97_3 : w95.cell? ⟨gb488, 3, none⟩ = some (.int .u64 t486) := (blk_cell BK488.out 3).trans rfl; have hcz97_4 : w95.cell? ⟨gb488, 4, none⟩ = some (.int .i64 t487) := (blk_cell BK488.out 4).trans rfl; have hfz97_0 := blk_frozen BK488.out 0; have hfz97_1 := blk_frozen BK488.out 1; have hfz97_2 := blk_frozen BK488.out 2; have hfz97_3 := blk_frozen BK488.out 3; have hfz97_4 := blk_frozen BK488.out 4))
        go_meet
        case rel => exact ⟨_, ((!(t477 == t483) || (!(t478 == t484) || (!(t479 == t485) || (!(t480 == t486)))))), (by first | rfl | (simp; done) | (simp [*]; done)), H', ⟨by have := HJ9.out; first | omega | exact Nat.le_refl _⟩, ⟨by (with_reducible repeat (first | refine blk_drewN ?_ _ | refine blk_drew ?_ | refine blk_alloc ?_ _)); exact BK473.out⟩, ⟨by (with_reducible repeat (first | refine blk_drewN ?_ _ | refine blk_drew ?_ | refine blk_alloc ?_ _)); exact BK474.out⟩, ⟨by (with_reducible repeat (first | refine blk_drewN ?_ _ | refine blk_drew ?_ | refine blk_alloc ?_ _)); exact BK475.out⟩, ⟨by (with_reducible repeat (first | refine blk_drewN ?_ _ | refine blk_drew ?_ | refine blk_alloc ?_ _)); exact BK482.out⟩, ⟨by (with_reducible repeat (first | refine blk_drewN ?_ _ | refine blk_drew ?_ | refine blk_alloc ?_ _)); exact BK488.out⟩, ⟨by (with_reducible repeat (first | refine blk_drewN ?_ _ | refine blk_drew ?_ | refine blk_alloc ?_ _)); exact BK494.out⟩, ⟨by repeat (first | (with_reducible first | exact HB.out | apply below_alloc | apply pw_below_drewN | apply below_drew1 | refine below_set ?_ GE473.out | refine below_set ?_ GE474.out | refine below_set ?_ GE475.out | refine below_set ?_ GE482.out | refine below_set ?_ GE488.out | refine below_set ?_ GE494.out) | exact HB.out)⟩⟩
      case rest =>
        clear HC81
        try clear c1
        try clear c2
        try clear p2
        try clear c3
        try clear c4
        try clear c5
        try clear c6
        try clear c7
        try clear c8
        try clear c9
        try clear c10
        try clear c15
        try clear c16
        try clear c18
        try clear c21
        try clear c23
        try clear c24
        try clear c25
        try clear c30
        try clear c31
        try clear c32
        try clear c33
        try clear c38
        try clear c39
        try clear c40
        try clear c41
        try clear c42
        try clear c47
        try clear c47b0
        try clear c49
        try clear c49b0
        try clear c51
        try clear c52
        try clear c53
        try clear c54
        try clear c55
        try clear c57
        try clear c58
        try clear c59
        try clear c60
        try clear c63
        try clear c64
        try clear c65
        try clear c69
        try clear c70
        try clear c71
        try clear c72
        try clear c73
        try clear c75
        try clear c76
        try clear c77
        try clear c78
        try clear c83
        try clear c84
        try clear c85
        try clear c86
        try clear c87
        try clear c88
        try clear c90
        try clear c91
        try clear c92
        try clear c93
        try clear c98
        try clear c99
        try clear c100
        try clear c101
        try clear c102
        try clear c104
        try clear c105
        try clear c106
        try clear c107
        try clear hcz103_0
        try clear hcz103_1
        try clear hcz103_2
        try clear hcz103_3
        try clear hcz103_4
        try clear hcz108_0
        try clear hcz108_1
        try clear hcz108_2
        try clear hcz108_3
        try clear hcz108_4
        try clear hcz17_0
        try clear hcz17_1
        try clear hcz17_2
        try clear hcz17_3
        try clear hcz17_4
        try clear hcz17_5
        try clear hcz19_0
        try clear hcz19_1
        try clear hcz19_2
        try clear hcz19_3
        try clear hcz19_4
        try clear hcz19_5
        try clear hcz20_0
        try clear hcz20_1
        try clear hcz20_2
        try clear hcz20_3
        try clear hcz20_4
        try clear hcz20_5
        try clear hcz26_0
        try clear hcz26_1
        try clear hcz26_2
        try clear hcz26_3
        try clear hcz26_4
        try clear hcz27_0
        try clear hcz27_1
        try clear hcz27_2
        try clear hcz27_3
        try clear hcz27_4
        try clear hcz27_5
        try clear hcz34_0
        try clear hcz34_1
        try clear hcz34_2
        try clear hcz34_3
        try clear hcz34_4
        try clear hcz35_0
        try clear hcz35_1
        try clear hcz35_2
        try clear hcz35_3
        try clear hcz35_4
        try clear hcz35_5
        try clear hcz43_0
        try clear hcz43_1
        try clear hcz43_2
        try clear hcz43_3
        try clear hcz43_4
        try clear hcz44_0
        try clear hcz44_1
        try clear hcz44_2
        try clear hcz44_3
        try clear hcz44_4
        try clear hcz45_0
        try clear hcz45_1
        try clear hcz45_2
        try clear hcz45_3
        try clear hcz45_4
        try clear hcz56_0
        try clear hcz56_1
        try clear hcz56_2
        try clear hcz56_3
        try clear hcz56_4
        try clear hcz61_0
        try clear hcz61_1
        try clear hcz61_2
        try clear hcz61_3
        try clear hcz61_4
        try clear hcz66_0
        try clear hcz66_1
        try clear hcz66_2
        try clear hcz66_3
        try clear hcz66_4
        try clear hcz67_0
        try clear hcz67_1
        try clear hcz67_2
        try clear hcz67_3
        try clear hcz67_4
        try clear hcz74_0
        try clear hcz74_1
        try clear hcz74_2
        try clear hcz74_3
        try clear hcz74_4
        try clear hcz79_0
        try clear hcz79_1
        try clear hcz79_2
        try clear hcz79_3
        try clear hcz79_4
        try clear hcz89_0
        try clear hcz89_1
        try clear hcz89_2
        try clear hcz89_3
        try clear hcz89_4
        try clear hcz94_0
        try clear hcz94_1
        try clear hcz94_2
        try clear hcz94_3
        try clear hcz94_4
        try clear hcz96_0
        try clear hcz96_1
        try clear hcz96_2
        try clear hcz96_3
        try clear hcz96_4
        try clear hcz97_0
        try clear hcz97_1
        try clear hcz97_2
        try clear hcz97_3
        try clear hcz97_4
        try clear hfz103_0
        try clear hfz103_1
        try clear hfz103_2
        try clear hfz103_3
        try clear hfz103_4
        try clear hfz108_0
        try clear hfz108_1
        try clear hfz108_2
        try clear hfz108_3
        try clear hfz108_4
        try clear hfz17_0
        try clear hfz17_1
        try clear hfz17_2
        try clear hfz17_3
        try clear hfz17_4
        try clear hfz17_5
        try clear hfz19_0
        try clear hfz19_1
        try clear hfz19_2
        try clear hfz19_3
        try clear hfz19_4
        try clear hfz19_5
        try clear hfz20_0
        try clear hfz20_1
        try clear hfz20_2
        try clear hfz20_3
        try clear hfz20_4
        try clear hfz20_5
        try clear hfz26_0
        try clear hfz26_1
        try clear hfz26_2
        try clear hfz26_3
        try clear hfz26_4
        try clear hfz27_0
        try clear hfz27_1
        try clear hfz27_2
        try clear hfz27_3
        try clear hfz27_4
        try clear hfz27_5
        try clear hfz34_0
        try clear hfz34_1
        try clear hfz34_2
        try clear hfz34_3
        try clear hfz34_4
        try clear hfz35_0
        try clear hfz35_1
        try clear hfz35_2
        try clear hfz35_3
        try clear hfz35_4
        try clear hfz35_5
        try clear hfz43_0
        try clear hfz43_1
        try clear hfz43_2
        try clear hfz43_3
        try clear hfz43_4
        try clear hfz44_0
        try clear hfz44_1
        try clear hfz44_2
        try clear hfz44_3
        try clear hfz44_4
        try clear hfz45_0
        try clear hfz45_1
        try clear hfz45_2
        try clear hfz45_3
        try clear hfz45_4
        try clear hfz56_0
        try clear hfz56_1
        try clear hfz56_2
        try clear hfz56_3
        try clear hfz56_4
        try clear hfz61_0
        try clear hfz61_1
        try clear hfz61_2
        try clear hfz61_3
        try clear hfz61_4
        try clear hfz66_0
        try clear hfz66_1
        try clear hfz66_2
        try clear hfz66_3
        try clear hfz66_4
        try clear hfz67_0
        try clear hfz67_1
        try clear hfz67_2
        try clear hfz67_3
        try clear hfz67_4
        try clear hfz74_0
        try clear hfz74_1
        try clear hfz74_2
        try clear hfz74_3
        try clear hfz74_4
        try clear hfz79_0
        try clear hfz79_1
        try clear hfz79_2
        try clear hfz79_3
        try clear hfz79_4
        try clear hfz89_0
        try clear hfz89_1
        try clear hfz89_2
        try clear hfz89_3
        try clear hfz89_4
        try clear hfz94_0
        try clear hfz94_1
        try clear hfz94_2
        try clear hfz94_3
        try clear hfz94_4
        try clear hfz96_0
        try clear hfz96_1
        try clear hfz96_2
        try clear hfz96_3
        try clear hfz96_4
        try clear hfz97_0
        try clear hfz97_1
        try clear hfz97_2
        try clear hfz97_3
        try clear hfz97_4
        try clear p2
        obtain ⟨kq, x13_80, rfl, HA, HJ80, BK473, BK474, BK475, BK482, BK488, BK494, HB⟩ := hcut
        cases kq with
        | zero => exact absurd HA.out (by simp [tenementlaw07_StampOrder.j1])
        | succ kj80 =>
          have H := HA.out
          clear HA
          simp only [tenementlaw07_StampOrder.j1] at H
          replace H : ((stamp_Order.f kj80 t483 t484 t485 t486 t487 t477 t478 t479 t480 t481).bind fun t499 => (if t495 = (wrap64 (-t499)) then (if t495 = 0 then (if ((t477 == t483 && (t478 == t484 && (t479 == t485 && (t480 == t486)))) && (t481 == t487)) = true then (if x12_9 = true then (none) else (if x13_80 = true then (if t495 < 0 then ((stamp_Later.f kj80 t483 t484 t485 t486 t487 t489 t490 t491 t492 t493).bind fun bt500 => ((stamp_Later.f kj80 t477 t478 t479 t480 t481 bt500.1 bt500.2.1 bt500.2.2.1 bt500.2.2.2.1 bt500.2.2.2.2).bind fun bt505 => ((stamp_Later.f kj80 t489 t490 t491 t492 t493 t477 t478 t479 t480 t481).bind fun bt510 => ((stamp_Later.f kj80 bt510.1 bt510.2.1 bt510.2.2.1 bt510.2.2.2.1 bt510.2.2.2.2 t483 t484 t485 t486 t487).bind fun bt515 => (if ((bt505.1 == bt515.1 && (bt505.2.1 == bt515.2.1 && (bt505.2.2.1 == bt515.2.2.1 && (bt505.2.2.2.1 == bt515.2.2.2.1)))) && (bt505.2.2.2.2 == bt515.2.2.2.2)) = true then (some true) else (none)))))) else (none)) else ((stamp_Later.f kj80 t483 t484 t485 t486 t487 t489 t490 t491 t492 t493).bind fun bt520 => ((stamp_Later.f kj80 t477 t478 t479 t480 t481 bt520.1 bt520.2.1 bt520.2.2.1 bt520.2.2.2.1 bt520.2.2.2.2).bind fun bt525 => ((stamp_Later.f kj80 t489 t490 t491 t492 t493 t477 t478 t479 t480 t481).bind fun bt530 => ((stamp_Later.f kj80 bt530.1 bt530.2.1 bt530.2.2.1 bt530.2.2.2.1 bt530.2.2.2.2 t483 t484 t485 t486 t487).bind fun bt535 => (if ((bt525.1 == bt535.1 && (bt525.2.1 == bt535.2.1 && (bt525.2.2.1 == bt535.2.2.1 && (bt525.2.2.2.1 == bt535.2.2.2.1)))) && (bt525.2.2.2.2 == bt535.2.2.2.2)) = true then (some true) else (none)))))))) else (none)) else (if ((t477 == t483 && (t478 == t484 && (t479 == t485 && (t480 == t486)))) && (t481 == t487)) = true then (none) else (if x12_9 = true then (none) else (if x13_80 = true then (if t495 < 0 then ((stamp_Later.f kj80 t483 t484 t485 t486 t487 t489 t490 t491 t492 t493).bind fun bt540 => ((stamp_Later.f kj80 t477 t478 t479 t480 t481 bt540.1 bt540.2.1 bt540.2.2.1 bt540.2.2.2.1 bt540.2.2.2.2).bind fun bt545 => ((stamp_Later.f kj80 t489 t490 t491 t492 t493 t477 t478 t479 t480 t481).bind fun bt550 => ((stamp_Later.f kj80 bt550.1 bt550.2.1 bt550.2.2.1 bt550.2.2.2.1 bt550.2.2.2.2 t483 t484 t485 t486 t487).bind fun bt555 => (if ((bt545.1 == bt555.1 && (bt545.2.1 == bt555.2.1 && (bt545.2.2.1 == bt555.2.2.1 && (bt545.2.2.2.1 == bt555.2.2.2.1)))) && (bt545.2.2.2.2 == bt555.2.2.2.2)) = true then (some true) else (none)))))) else (none)) else ((stamp_Later.f kj80 t483 t484 t485 t486 t487 t489 t490 t491 t492 t493).bind fun bt560 => ((stamp_Later.f kj80 t477 t478 t479 t480 t481 bt560.1 bt560.2.1 bt560.2.2.1 bt560.2.2.2.1 bt560.2.2.2.2).bind fun bt565 => ((stamp_Later.f kj80 t489 t490 t491 t492 t493 t477 t478 t479 t480 t481).bind fun bt570 => ((stamp_Later.f kj80 bt570.1 bt570.2.1 bt570.2.2.1 bt570.2.2.2.1 bt570.2.2.2.2 t483 t484 t485 t486 t487).bind fun bt575 => (if ((bt565.1 == bt575.1 && (bt565.2.1 == bt575.2.1 && (bt565.2.2.1 == bt575.2.2.1 && (bt565.2.2.2.1 == bt575.2.2.2.1)))) && (bt565.2.2.2.2 == bt575.2.2.2.2)) = true then (some true) else (none)))))))))) else (none))) = some r := by first | (rw [if_pos rfl] at H; exact H) | (rw [if_pos trivial] at H; exact H)
          replace H := Option.bind_eq_some_iff.mp H
          obtain ⟨t499, A1100, H⟩ := H
          replace H : (if t495 = (wrap64 (-t499)) then (if t495 = 0 then (if ((t477 == t483 && (t478 == t484 && (t479 == t485 && (t480 == t486)))) && (t481 == t487)) = true then (if x12_9 = true then (none) else (if x13_80 = true then (if t495 < 0 then ((stamp_Later.f kj80 t483 t484 t485 t486 t487 t489 t490 t491 t492 t493).bind fun bt500 => ((stamp_Later.f kj80 t477 t478 t479 t480 t481 bt500.1 bt500.2.1 bt500.2.2.1 bt500.2.2.2.1 bt500.2.2.2.2).bind fun bt505 => ((stamp_Later.f kj80 t489 t490 t491 t492 t493 t477 t478 t479 t480 t481).bind fun bt510 => ((stamp_Later.f kj80 bt510.1 bt510.2.1 bt510.2.2.1 bt510.2.2.2.1 bt510.2.2.2.2 t483 t484 t485 t486 t487).bind fun bt515 => (if ((bt505.1 == bt515.1 && (bt505.2.1 == bt515.2.1 && (bt505.2.2.1 == bt515.2.2.1 && (bt505.2.2.2.1 == bt515.2.2.2.1)))) && (bt505.2.2.2.2 == bt515.2.2.2.2)) = true then (some true) else (none)))))) else (none)) else ((stamp_Later.f kj80 t483 t484 t485 t486 t487 t489 t490 t491 t492 t493).bind fun bt520 => ((stamp_Later.f kj80 t477 t478 t479 t480 t481 bt520.1 bt520.2.1 bt520.2.2.1 bt520.2.2.2.1 bt520.2.2.2.2).bind fun bt525 => ((stamp_Later.f kj80 t489 t490 t491 t492 t493 t477 t478 t479 t480 t481).bind fun bt530 => ((stamp_Later.f kj80 bt530.1 bt530.2.1 bt530.2.2.1 bt530.2.2.2.1 bt530.2.2.2.2 t483 t484 t485 t486 t487).bind fun bt535 => (if ((bt525.1 == bt535.1 && (bt525.2.1 == bt535.2.1 && (bt525.2.2.1 == bt535.2.2.1 && (bt525.2.2.2.1 == bt535.2.2.2.1)))) && (bt525.2.2.2.2 == bt535.2.2.2.2)) = true then (some true) else (none)))))))) else (none)) else (if ((t477 == t483 && (t478 == t484 && (t479 == t485 && (t480 == t486)))) && (t481 == t487)) = true then (none) else (if x12_9 = true then (none) else (if x13_80 = true then (if t495 < 0 then ((stamp_Later.f kj80 t483 t484 t485 t486 t487 t489 t490 t491 t492 t493).bind fun bt540 => ((stamp_Later.f kj80 t477 t478 t479 t480 t481 bt540.1 bt540.2.1 bt540.2.2.1 bt540.2.2.2.1 bt540.2.2.2.2).bind fun bt545 => ((stamp_Later.f kj80 t489 t490 t491 t492 t493 t477 t478 t479 t480 t481).bind fun bt550 => ((stamp_Later.f kj80 bt550.1 bt550.2.1 bt550.2.2.1 bt550.2.2.2.1 bt550.2.2.2.2 t483 t484 t485 t486 t487).bind fun bt555 => (if ((bt545.1 == bt555.1 && (bt545.2.1 == bt555.2.1 && (bt545.2.2.1 == bt555.2.2.1 && (bt545.2.2.2.1 == bt555.2.2.2.1)))) && (bt545.2.2.2.2 == bt555.2.2.2.2)) = true then (some true) else (none)))))) else (none)) else ((stamp_Later.f kj80 t483 t484 t485 t486 t487 t489 t490 t491 t492 t493).bind fun bt560 => ((stamp_Later.f kj80 t477 t478 t479 t480 t481 bt560.1 bt560.2.1 bt560.2.2.1 bt560.2.2.2.1 bt560.2.2.2.2).bind fun bt565 => ((stamp_Later.f kj80 t489 t490 t491 t492 t493 t477 t478 t479 t480 t481).bind fun bt570 => ((stamp_Later.f kj80 bt570.1 bt570.2.1 bt570.2.2.1 bt570.2.2.2.1 bt570.2.2.2.2 t483 t484 t485 t486 t487).bind fun bt575 => (if ((bt565.1 == bt575.1 && (bt565.2.1 == bt575.2.1 && (bt565.2.2.1 == bt575.2.2.1 && (bt565.2.2.2.1 == bt575.2.2.2.1)))) && (bt565.2.2.2.2 == bt575.2.2.2.2)) = true then (some true) else (none)))))))))) else (none)) = some r := H
          have A110 := Aside0.mk A1100
          clear A1100
          by_cases c111 : t495 = (wrap64 (-t499))
          rotate_left
          · rw [if_neg c111] at H
            exact absurd H (by simp)
          rw [if_pos c111] at H
          have c111b0 : (t495 == (wrap64 (-t499))) = true := beq_iff_eq.mpr c111
          have c111b1 : (t495 != (wrap64 (-t499))) = false := bne_eq_false_iff_eq.mpr c111
          clear c111
          by_cases c112 : t495 = 0
          rotate_left
          · rw [if_neg c112] at H
            have c112b0 : (t495 == 0) = false := beq_eq_false_iff_ne.mpr c112
            have c112b1 : (t495 != 0) = true := bne_iff_ne.mpr c112
            by_cases c139 : ((t477 == t483 && (t478 == t484 && (t479 == t485 && (t480 == t486)))) && (t481 == t487)) = true
            · rw [if_pos c139] at H
              exact absurd H (by simp)
            rw [if_neg c139] at H
            have c139b0 : ((t477 == t483 && (t478 == t484 && (t479 == t485 && (t480 == t486)))) && (t481 == t487)) = false := by simpa using c139
            clear c139
            by_cases c140 : x12_9 = true
            · subst c140
              have H1 : (none) = some r := by rw [if_pos rfl] at H; exact H
              clear H
              have H := H1
              clear H1
              exact absurd H (by simp)
            replace c140 := Bool.eq_false_iff.mpr c140
            subst c140
            have H1 : (if x13_80 = true then (if t495 < 0 then ((stamp_Later.f kj80 t483 t484 t485 t486 t487 t489 t490 t491 t492 t493).bind fun bt540 => ((stamp_Later.f kj80 t477 t478 t479 t480 t481 bt540.1 bt540.2.1 bt540.2.2.1 bt540.2.2.2.1 bt540.2.2.2.2).bind fun bt545 => ((stamp_Later.f kj80 t489 t490 t491 t492 t493 t477 t478 t479 t480 t481).bind fun bt550 => ((stamp_Later.f kj80 bt550.1 bt550.2.1 bt550.2.2.1 bt550.2.2.2.1 bt550.2.2.2.2 t483 t484 t485 t486 t487).bind fun bt555 => (if ((bt545.1 == bt555.1 && (bt545.2.1 == bt555.2.1 && (bt545.2.2.1 == bt555.2.2.1 && (bt545.2.2.2.1 == bt555.2.2.2.1)))) && (bt545.2.2.2.2 == bt555.2.2.2.2)) = true then (some true) else (none)))))) else (none)) else ((stamp_Later.f kj80 t483 t484 t485 t486 t487 t489 t490 t491 t492 t493).bind fun bt560 => ((stamp_Later.f kj80 t477 t478 t479 t480 t481 bt560.1 bt560.2.1 bt560.2.2.1 bt560.2.2.2.1 bt560.2.2.2.2).bind fun bt565 => ((stamp_Later.f kj80 t489 t490 t491 t492 t493 t477 t478 t479 t480 t481).bind fun bt570 => ((stamp_Later.f kj80 bt570.1 bt570.2.1 bt570.2.2.1 bt570.2.2.2.1 bt570.2.2.2.2 t483 t484 t485 t486 t487).bind fun bt575 => (if ((bt565.1 == bt575.1 && (bt565.2.1 == bt575.2.1 && (bt565.2.2.1 == bt575.2.2.1 && (bt565.2.2.2.1 == bt575.2.2.2.1)))) && (bt565.2.2.2.2 == bt575.2.2.2.2)) = true then (some true) else (none))))))) = some r := by rw [if_neg (show ¬ (false = true) by decide)] at H; exact H
            clear H
            have H := H1
            clear H1
            by_cases c141 : x13_80 = true
            rotate_left
            · replace c141 := Bool.eq_false_iff.mpr c141
              subst c141
              have H1 : ((stamp_Later.f kj80 t483 t484 t485 t486 t487 t489 t490 t491 t492 t493).bind fun bt560 => ((stamp_Later.f kj80 t477 t478 t479 t480 t481 bt560.1 bt560.2.1 bt560.2.2.1 bt560.2.2.2.1 bt560.2.2.2.2).bind fun bt565 => ((stamp_Later.f kj80 t489 t490 t491 t492 t493 t477 t478 t479 t480 t481).bind fun bt570 => ((stamp_Later.f kj80 bt570.1 bt570.2.1 bt570.2.2.1 bt570.2.2.2.1 bt570.2.2.2.2 t483 t484 t485 t486 t487).bind fun bt575 => (if ((bt565.1 == bt575.1 && (bt565.2.1 == bt575.2.1 && (bt565.2.2.1 == bt575.2.2.1 && (bt565.2.2.2.1 == bt575.2.2.2.1)))) && (bt565.2.2.2.2 == bt575.2.2.2.2)) = true then (some true) else (none)))))) = some r := by rw [if_neg (show ¬ (false = true) by decide)] at H; exact H
              clear H
              have H := H1
              clear H1
              replace H := Option.bind_eq_some_iff.mp H
              obtain ⟨⟨t560, t561, t562, t563, t564⟩, A1540, H⟩ := H
              replace H : ((stamp_Later.f kj80 t477 t478 t479 t480 t481 t560 t561 t562 t563 t564).bind fun bt565 => ((stamp_Later.f kj80 t489 t490 t491 t492 t493 t477 t478 t479 t480 t481).bind fun bt570 => ((stamp_Later.f kj80 bt570.1 bt570.2.1 bt570.2.2.1 bt570.2.2.2.1 bt570.2.2.2.2 t483 t484 t485 t486 t487).bind fun bt575 => (if ((bt565.1 == bt575.1 && (bt565.2.1 == bt575.2.1 && (bt565.2.2.1 == bt575.2.2.1 && (bt565.2.2.2.1 == bt575.2.2.2.1)))) && (bt565.2.2.2.2 == bt575.2.2.2.2)) = true then (some true) else (none))))) = some r := H
              have A154 := Aside0.mk A1540
              clear A1540
              replace H := Option.bind_eq_some_iff.mp H
              obtain ⟨⟨t565, t566, t567, t568, t569⟩, A1550, H⟩ := H
              replace H : ((stamp_Later.f kj80 t489 t490 t491 t492 t493 t477 t478 t479 t480 t481).bind fun bt570 => ((stamp_Later.f kj80 bt570.1 bt570.2.1 bt570.2.2.1 bt570.2.2.2.1 bt570.2.2.2.2 t483 t484 t485 t486 t487).bind fun bt575 => (if ((t565 == bt575.1 && (t566 == bt575.2.1 && (t567 == bt575.2.2.1 && (t568 == bt575.2.2.2.1)))) && (t569 == bt575.2.2.2.2)) = true then (some true) else (none)))) = some r := H
              have A155 := Aside0.mk A1550
              clear A1550
              replace H := Option.bind_eq_some_iff.mp H
              obtain ⟨⟨t570, t571, t572, t573, t574⟩, A1560, H⟩ := H
              replace H : ((stamp_Later.f kj80 t570 t571 t572 t573 t574 t483 t484 t485 t486 t487).bind fun bt575 => (if ((t565 == bt575.1 && (t566 == bt575.2.1 && (t567 == bt575.2.2.1 && (t568 == bt575.2.2.2.1)))) && (t569 == bt575.2.2.2.2)) = true then (some true) else (none))) = some r := H
              have A156 := Aside0.mk A1560
              clear A1560
              replace H := Option.bind_eq_some_iff.mp H
              obtain ⟨⟨t575, t576, t577, t578, t579⟩, A1570, H⟩ := H
              replace H : (if ((t565 == t575 && (t566 == t576 && (t567 == t577 && (t568 == t578)))) && (t569 == t579)) = true then (some true) else (none)) = some r := H
              have A157 := Aside0.mk A1570
              clear A1570
              by_cases c158 : ((t565 == t575 && (t566 == t576 && (t567 == t577 && (t568 == t578)))) && (t569 == t579)) = true
              rotate_left
              · rw [if_neg c158] at H
                exact absurd H (by simp)
              rw [if_pos c158] at H
              have c158b0 : ((t565 == t575 && (t566 == t576 && (t567 == t577 && (t568 == t578)))) && (t569 == t579)) = true := c158
              clear c158
              obtain rfl := Option.some.inj H
              try go_wp2
              replace BK473 := Kd_ BK473
              replace BK474 := Kd_ BK474
              replace BK475 := Kd_ BK475
              replace BK482 := Kd_ BK482
              replace BK488 := Kd_ BK488
              replace BK494 := Kd_ BK494
              replace HB := Aside0.mk (below_drew1 HB.out)
              refine start_ (n := 43) (S := fun w' => w'.cell? ⟨gb488, 0, none⟩ = some (.int .u64 t483) ∧ w'.cell? ⟨gb488, 1, none⟩ = some (.int .u64 t484) ∧ w'.cell? ⟨gb488, 2, none⟩ = some (.int .u64 t485) ∧ w'.cell? ⟨gb488, 3, none⟩ = some (.int .u64 t486) ∧ w'.cell? ⟨gb488, 4, none⟩ = some (.int .i64 t487) ∧ w'.cell? ⟨gb482, 0, none⟩ = some (.int .u64 t477) ∧ w'.cell? ⟨gb482, 1, none⟩ = some (.int .u64 t478) ∧ w'.cell? ⟨gb482, 2, none⟩ = some (.int .u64 t479) ∧ w'.cell? ⟨gb482, 3, none⟩ = some (.int .u64 t480) ∧ w'.cell? ⟨gb482, 4, none⟩ = some (.int .i64 t481) ∧ w'.cell? ⟨gb494, 0, none⟩ = some (.int .u64 t489) ∧ w'.cell? ⟨gb494, 1, none⟩ = some (.int .u64 t490) ∧ w'.cell? ⟨gb494, 2, none⟩ = some (.int .u64 t491) ∧ w'.cell? ⟨gb494, 3, none⟩ = some (.int .u64 t492) ∧ w'.cell? ⟨gb494, 4, none⟩ = some (.int .i64 t493)) (ds := []) #[false, false, false, false, false, false, false, false, false, false, false, false, false, false, false, false, false, false, false, false, false, false, false, false, false, false, false, false, false, false, false, false, false, false, false, false, false, false, false, false, false, false, false] (by kernel_rfl) rfl rfl ⟨(blk_cell BK488.out 0).trans rfl, (blk_cell BK488.out 1).trans rfl, (blk_cell BK488.out 2).trans rfl, (blk_cell BK488.out 3).trans rfl, (blk_cell BK488.out 4).trans rfl, (blk_cell BK482.out 0).trans rfl, (blk_cell BK482.out 1).trans rfl, (blk_cell BK482.out 2).trans rfl, (blk_cell BK482.out 3).trans rfl, (blk_cell BK482.out 4).trans rfl, (blk_cell BK494.out 0).trans rfl, (blk_cell BK494.out 1).trans rfl, (blk_cell BK494.out 2).trans rfl, (blk_cell BK494.out 3).trans rfl, (blk_cell BK494.out 4).trans rfl⟩ (fun hHeld => ?_); refine with_tabW tenementlaw07_StampOrder.tab13 tenementlaw07_StampOrder.bits13 (fun HT_ HW_ => ?_)
              generalize wc.drew = w159 at BK473 BK474 BK475 BK482 BK488 BK494 HB hHeld ⊢
              refine pure_ (i := 0) (N := some 54) (v := ?_) (a' := ?_) #[true, false, false, false, false, false, false, false, false, false, false, false, false, false, false, false, false, false, false, false, false, false, false, false, false, false, false, false, false, false, false, false, false, false, false, false, false, false, false, false, false, false, false] rfl rfl (any_of HT_.out (by kernel_rfl)) (fun _ _ _ h => h) (Or.inl ⟨by rfl, ?_⟩) ?_ ?_
              rotate_left
              · intro w'
                go_simp
                with_reducible rfl
              rotate_left
              · simp only [Act.put, List.setIfInBounds_toArray, List.set_cons_zero, List.set_cons_succ, i64_w, i32_w]
                rfl
              refine pure_ (i := 1) (N := some 55) (v := ?_) (a' := ?_) #[true, true, false, false, false, false, false, false, false, false, false, false, false, false, false, false, false, false, false, false, false, false, false, false, false, false, false, false, false, false, false, false, false, false, false, false, false, false, false, false, false, false, false] rfl rfl (any_of HT_.out (by kernel_rfl)) (fun _ _ _ h => h) (Or.inl ⟨by rfl, ?_⟩) ?_ ?_
              rotate_left
              · intro w'
                go_simp
                with_reducible rfl
              rotate_left
              · simp only [Act.put, List.setIfInBounds_toArray, List.set_cons_zero, List.set_cons_succ, i64_w, i32_w]
                rfl
              refine pure_ (i := 2) (N := some 56) (v := ?_) (a' := ?_) #[true, true, true, false, false, false, false, false, false, false, false, false, false, false, false, false, false, false, false, false, false, false, false, false, false, false, false, false, false, false, false, false, false, false, false, false, false, false, false, false, false, false, false] rfl rfl (any_of HT_.out (by kernel_rfl)) (fun _ _ _ h => h) (Or.inl ⟨by rfl, ?_⟩) ?_ ?_
              rotate_left
              · intro w'
                go_simp
                with_reducible rfl
              rotate_left
              · simp only [Act.put, List.setIfInBounds_toArray, List.set_cons_zero, List.set_cons_succ, i64_w, i32_w]
                rfl
              refine take_ (i := 3) (N := some 57) (v := ?_) (a' := ?_) #[true, true, true, true, false, false, false, false, false, false, false, false, false, false, false, false, false, false, false, false, false, false, false, false, false, false, false, false, false, false, false, false, false, false, false, false, false, false, false, false, false, false, false] rfl rfl (take_ofW HT_.out HW_.out (by kernel_rfl)) (fun _ _ _ h => h) (Or.inl ⟨by rfl, ?_⟩) hHeld ?_ ?_
              rotate_left
              · rintro w' ⟨s0, s1, s2, s3, s4, s5, s6, s7, s8, s9, s10, s11, s12, s13, s14⟩
                go_simp
                with_reducible rfl
              rotate_left
              · simp only [Act.put, List.setIfInBounds_toArray, List.set_cons_zero, List.set_cons_succ, i64_w, i32_w]
                rfl
              refine take_ (i := 4) (N := some 58) (v := ?_) (a' := ?_) #[true, true, true, true, true, false, false, false, false, false, false, false, false, false, false, false, false, false, false, false, false, false, false, false, false, false, false, false, false, false, false, false, false, false, false, false, false, false, false, false, false, false, false] rfl rfl (take_ofW HT_.out HW_.out (by kernel_rfl)) (fun _ _ _ h => h) (Or.inl ⟨by rfl, ?_⟩) hHeld ?_ ?_
              rotate_left
              · rintro w' ⟨s0, s1, s2, s3, s4, s5, s6, s7, s8, s9, s10, s11, s12, s13, s14⟩
                go_simp
                with_reducible rfl
              rotate_left
              · simp only [Act.put, List.setIfInBounds_toArray, List.set_cons_zero, List.set_cons_succ, i64_w, i32_w]
                rfl
              refine one_ (i := 5) (N := some 59) #[true, true, true, true, true, true, false, false, false, false, false, false, false, false, false, false, false, false, false, false, false, false, false, false, false, false, false, false, false, false, false, false, false, false, false, false, false, false, false, false, false, false, false] rfl rfl (one_of HT_.out (by kernel_rfl)) (by decide) (fun K hK => ?_)
              refine goes_ Tryd.func21 (by kernel_rfl) rfl #[.agg #[.int .u64 t483, .int .u64 t484, .int .u64 t485, .int .u64 t486, .int .i64 t487], .agg #[.int .u64 t477, .int .u64 t478, .int .u64 t479, .int .u64 t480, .int .i64 t481]] (by rfl) rfl rfl (by (try simp only [List.map_toArray, List.map_cons, List.map_nil]); first | done | rfl | (simp only [List.length_drop, List.length_take]; rfl)) ?_
              with_reducible refine (stamp_Order.calls kj80 t483 t484 t485 t486 t487 t477 t478 t479 t480 t481 t499 _ A110.out).mono ?_
              rintro e w160 ⟨rfl, hb⟩
              refine ⟨_, rfl, ?_⟩
              replace BK473 := Kb_ BK473 hb
              replace BK474 := Kb_ BK474 hb
              replace BK475 := Kb_ BK475 hb
              replace BK482 := Kb_ BK482 hb
              replace BK488 := Kb_ BK488 hb
              replace BK494 := Kb_ BK494 hb
              replace HB := Ks_ HB hb
              (try clear hb)
              (try clear hb2)
              (try clear hk)
              (try clear hi)
              refine hK.out _ _ ⟨(blk_cell BK488.out 0).trans rfl, (blk_cell BK488.out 1).trans rfl, (blk_cell BK488.out 2).trans rfl, (blk_cell BK488.out 3).trans rfl, (blk_cell BK488.out 4).trans rfl, (blk_cell BK482.out 0).trans rfl, (blk_cell BK482.out 1).trans rfl, (blk_cell BK482.out 2).trans rfl, (blk_cell BK482.out 3).trans rfl, (blk_cell BK482.out 4).trans rfl, (blk_cell BK494.out 0).trans rfl, (blk_cell BK494.out 1).trans rfl, (blk_cell BK494.out 2).trans rfl, (blk_cell BK494.out 3).trans rfl, (blk_cell BK494.out 4).trans rfl⟩ (fun hHeld => ?_)
              clear hK K
              refine norm_ (a' := ?_) ?_ ?_
              rotate_left
              · show Act.put _ (some 59) _ = _
                simp only [Act.put, List.setIfInBounds_toArray, List.set_cons_zero, List.set_cons_succ, i64_w, i32_w]
                rfl
              refine pure_ (i := 6) (N := some 60) (v := ?_) (a' := ?_) #[true, true, true, true, true, true, true, false, false, false, false, false, false, false, false, false, false, false, false, false, false, false, false, false, false, false, false, false, false, false, false, false, false, false, false, false, false, false, false, false, false, false, false] rfl rfl (any_of HT_.out (by kernel_rfl)) (fun _ _ _ h => h) (Or.inl ⟨by rfl, ?_⟩) ?_ ?_
              rotate_left
              · intro w'
                go_simp
                with_reducible rfl
              rotate_left
              · simp only [Act.put, List.setIfInBounds_toArray, List.set_cons_zero, List.set_cons_succ, i64_w, i32_w]
                rfl
              refine pure_ (i := 7) (N := some 61) (v := ?_) (a' := ?_) #[true, true, true, true, true, true, true, true, false, false, false, false, false, false, false, false, false, false, false, false, false, false, false, false, false, false, false, false, false, false, false, false, false, false, false, false, false, false, false, false, false, false, false] rfl rfl (any_of HT_.out (by kernel_rfl)) (fun _ _ _ h => h) (Or.inl ⟨by rfl, ?_⟩) ?_ ?_
              rotate_left
              · intro w'
                go_simp
                with_reducible rfl
              rotate_left
              · simp only [Act.put, List.setIfInBounds_toArray, List.set_cons_zero, List.set_cons_succ, i64_w, i32_w]
                rfl
              refine pure_ (i := 8) (N := some 62) (v := ?_) (a' := ?_) #[true, true, true, true, true, true, true, true, true, false, false, false, false, false, false, false, false, false, false, false, false, false, false, false, false, false, false, false, false, false, false, false, false, false, false, false, false, false, false, false, false, false, false] rfl rfl (any_of HT_.out (by kernel_rfl)) (fun _ _ _ h => h) (Or.inl ⟨by rfl, ?_⟩) ?_ ?_
              rotate_left
              · intro w'
                go_simp
                with_reducible rfl
              rotate_left
              · simp only [Act.put, List.setIfInBounds_toArray, List.set_cons_zero, List.set_cons_succ, i64_w, i32_w]
                rfl
              refine pure_ (i := 9) (N := some 63) (v := ?_) (a' := ?_) #[true, true, true, true, true, true, true, true, true, true, false, false, false, false, false, false, false, false, false, false, false, false, false, false, false, false, false, false, false, false, false, false, false, false, false, false, false, false, false, false, false, false, false] rfl rfl (any_of HT_.out (by kernel_rfl)) (fun _ _ _ h => h) (Or.inl ⟨by rfl, ?_⟩) ?_ ?_
              rotate_left
              · intro w'
                go_simp
                with_reducible rfl
              rotate_left
              · simp only [Act.put, List.setIfInBounds_toArray, List.set_cons_zero, List.set_cons_succ, i64_w, i32_w]
                rfl
              refine pure_ (i := 10) (N := some 64) (v := ?_) (a' := ?_) #[true, true, true, true, true, true, true, true, true, true, true, false, false, false, false, false, false, false, false, false, false, false, false, false, false, false, false, false, false, false, false, false, false, false, false, false, false, false, false, false, false, false, false] rfl rfl (any_of HT_.out (by kernel_rfl)) (fun _ _ _ h => h) (Or.inl ⟨by rfl, ?_⟩) ?_ ?_
              rotate_left
              · intro w'
                go_simp
                with_reducible rfl
              rotate_left
              · simp only [Act.put, List.setIfInBounds_toArray, List.set_cons_zero, List.set_cons_succ, i64_w, i32_w]
                rfl
              refine pure_ (i := 11) (N := some 65) (v := ?_) (a' := ?_) #[true, true, true, true, true, true, true, true, true, true, true, true, false, false, false, false, false, false, false, false, false, false, false, false, false, false, false, false, false, false, false, false, false, false, false, false, false, false, false, false, false, false, false] rfl rfl (any_of HT_.out (by kernel_rfl)) (fun _ _ _ h => h) (Or.inl ⟨by rfl, ?_⟩) ?_ ?_
              rotate_left
              · intro w'
                go_simp
                with_reducible rfl
              rotate_left
              · simp only [Act.put, List.setIfInBounds_toArray, List.set_cons_zero, List.set_cons_succ, i64_w, i32_w]
                rfl
              refine take_ (i := 12) (N := some 66) (v := ?_) (a' := ?_) #[true, true, true, true, true, true, true, true, true, true, true, true, true, false, false, false, false, false, false, false, false, false, false, false, false, false, false, false, false, false, false, false, false, false, false, false, false, false, false, false, false, false, false] rfl rfl (take_ofW HT_.out HW_.out (by kernel_rfl)) (fun _ _ _ h => h) (Or.inl ⟨by rfl, ?_⟩) hHeld ?_ ?_
              rotate_left
              · rintro w' ⟨s0, s1, s2, s3, s4, s5, s6, s7, s8, s9, s10, s11, s12, s13, s14⟩
                go_simp
                with_reducible rfl
              rotate_left
              · simp only [Act.put, List.setIfInBounds_toArray, List.set_cons_zero, List.set_cons_succ, i64_w, i32_w]
                rfl
              refine take_ (i := 13) (N := some 67) (v := ?_) (a' := ?_) #[true, true, true, true, true, true, true, true, true, true, true, true, true, true, false, false, false, false, false, false, false, false, false, false, false, false, false, false, false, false, false, false, false, false, false, false, false, false, false, false, false, false, false] rfl rfl (take_ofW HT_.out HW_.out (by kernel_rfl)) (fun _ _ _ h => h) (Or.inl ⟨by rfl, ?_⟩) hHeld ?_ ?_
              rotate_left
              · rintro w' ⟨s0, s1, s2, s3, s4, s5, s6, s7, s8, s9, s10, s11, s12, s13, s14⟩
                go_simp
                with_reducible rfl
              rotate_left
              · simp only [Act.put, List.setIfInBounds_toArray, List.set_cons_zero, List.set_cons_succ, i64_w, i32_w]
                rfl
              refine pure_ (i := 14) (N := some 68) (v := ?_) (a' := ?_) #[true, true, true, true, true, true, true, true, true, true, true, true, true, true, true, false, false, false, false, false, false, false, false, false, false, false, false, false, false, false, false, false, false, false, false, false, false, false, false, false, false, false, false] rfl rfl (any_of HT_.out (by kernel_rfl)) (fun _ _ _ h => h) (Or.inl ⟨by rfl, ?_⟩) ?_ ?_
              rotate_left
              · intro w'
                go_simp
                with_reducible rfl
              rotate_left
              · simp only [Act.put, List.setIfInBounds_toArray, List.set_cons_zero, List.set_cons_succ, i64_w, i32_w]
                rfl
              refine pure_ (i := 15) (N := some 69) (v := ?_) (a' := ?_) #[true, true, true, true, true, true, true, true, true, true, true, true, true, true, true, true, false, false, false, false, false, false, false, false, false, false, false, false, false, false, false, false, false, false, false, false, false, false, false, false, false, false, false] rfl rfl (any_of HT_.out (by kernel_rfl)) (fun _ _ _ h => h) (Or.inl ⟨by rfl, ?_⟩) ?_ ?_
              rotate_left
              · intro w'
                go_simp
                with_reducible rfl
              rotate_left
              · simp only [Act.put, List.setIfInBounds_toArray, List.set_cons_zero, List.set_cons_succ, i64_w, i32_w]
                rfl
              refine pure_ (i := 16) (N := some 70) (v := ?_) (a' := ?_) #[true, true, true, true, true, true, true, true, true, true, true, true, true, true, true, true, true, false, false, false, false, false, false, false, false, false, false, false, false, false, false, false, false, false, false, false, false, false, false, false, false, false, false] rfl rfl (any_of HT_.out (by kernel_rfl)) (fun _ _ _ h => h) (Or.inl ⟨by rfl, ?_⟩) ?_ ?_
              rotate_left
              · intro w'
                go_simp
                with_reducible rfl
              rotate_left
              · simp only [Act.put, List.setIfInBounds_toArray, List.set_cons_zero, List.set_cons_succ, i64_w, i32_w]
                rfl
              refine pure_ (i := 17) (N := some 71) (v := ?_) (a' := ?_) #[true, true, true, true, true, true, true, true, true, true, true, true, true, true, true, true, true, true, false, false, false, false, false, false, false, false, false, false, false, false, false, false, false, false, false, false, false, false, false, false, false, false, false] rfl rfl (any_of HT_.out (by kernel_rfl)) (fun _ _ _ h => h) (Or.inl ⟨by rfl, ?_⟩) ?_ ?_
              rotate_left
              · intro w'
                go_simp
                with_reducible rfl
              rotate_left
              · simp only [Act.put, List.setIfInBounds_toArray, List.set_cons_zero, List.set_cons_succ, i64_w, i32_w]
                rfl
              refine pure_ (i := 18) (N := some 72) (v := ?_) (a' := ?_) #[true, true, true, true, true, true, true, true, true, true, true, true, true, true, true, true, true, true, true, false, false, false, false, false, false, false, false, false, false, false, false, false, false, false, false, false, false, false, false, false, false, false, false] rfl rfl (any_of HT_.out (by kernel_rfl)) (fun _ _ _ h => h) (Or.inl ⟨by rfl, ?_⟩) ?_ ?_
              rotate_left
              · intro w'
                go_simp
                with_reducible rfl
              rotate_left
              · simp only [Act.put, List.setIfInBounds_toArray, List.set_cons_zero, List.set_cons_succ, i64_w, i32_w]
                rfl
              refine pure_ (i := 19) (N := some 73) (v := ?_) (a' := ?_) #[true, true, true, true, true, true, true, true, true, true, true, true, true, true, true, true, true, true, true, true, false, false, false, false, false, false, false, false, false, false, false, false, false, false, false, false, false, false, false, false, false, false, false] rfl rfl (any_of HT_.out (by kernel_rfl)) (fun _ _ _ h => h) (Or.inl ⟨by rfl, ?_⟩) ?_ ?_
              rotate_left
              · intro w'
                go_simp
                with_reducible rfl
              rotate_left
              · simp only [Act.put, List.setIfInBounds_toArray, List.set_cons_zero, List.set_cons_succ, i64_w, i32_w]
                rfl
              refine pure_ (i := 20) (N := some 74) (v := ?_) (a' := ?_) #[true, true, true, true, true, true, true, true, true, true, true, true, true, true, true, true, true, true, true, true, true, false, false, false, false, false, false, false, false, false, false, false, false, false, false, false, false, false, false, false, false, false, false] rfl rfl (any_of HT_.out (by kernel_rfl)) (fun _ _ _ h => h) (Or.inl ⟨by rfl, ?_⟩) ?_ ?_
              rotate_left
              · intro w'
                go_simp
                with_reducible rfl
              rotate_left
              · simp only [Act.put, List.setIfInBounds_toArray, List.set_cons_zero, List.set_cons_succ, i64_w, i32_w]
                rfl
              refine pure_ (i := 21) (N := some 75) (v := ?_) (a' := ?_) #[true, true, true, true, true, true, true, true, true, true, true, true, true, true, true, true, true, true, true, true, true, true, false, false, false, false, false, false, false, false, false, false, false, false, false, false, false, false, false, false, false, false, false] rfl rfl (any_of HT_.out (by kernel_rfl)) (fun _ _ _ h => h) (Or.inl ⟨by rfl, ?_⟩) ?_ ?_
              rotate_left
              · intro w'
                go_simp
                with_reducible rfl
              rotate_left
              · simp only [Act.put, List.setIfInBounds_toArray, List.set_cons_zero, List.set_cons_succ, i64_w, i32_w]
                rfl
              refine pure_ (i := 22) (N := some 76) (v := ?_) (a' := ?_) #[true, true, true, true, true, true, true, true, true, true, true, true, true, true, true, true, true, true, true, true, true, true, true, false, false, false, false, false, false, false, false, false, false, false, false, false, false, false, false, false, false, false, false] rfl rfl (any_of HT_.out (by kernel_rfl)) (fun _ _ _ h => h) (Or.inl ⟨by rfl, ?_⟩) ?_ ?_
              rotate_left
              · intro w'
                go_simp
                with_reducible rfl
              rotate_left
              · simp only [Act.put, List.setIfInBounds_toArray, List.set_cons_zero, List.set_cons_succ, i64_w, i32_w]
                rfl
              refine pure_ (i := 23) (N := some 77) (v := ?_) (a' := ?_) #[true, true, true, true, true, true, true, true, true, true, true, true, true, true, true, true, true, true, true, true, true, true, true, true, false, false, false, false, false, false, false, false, false, false, false, false, false, false, false, false, false, false, false] rfl rfl (any_of HT_.out (by kernel_rfl)) (fun _ _ _ h => h) (Or.inl ⟨by rfl, ?_⟩) ?_ ?_
              rotate_left
              · intro w'
                go_simp
                with_reducible rfl
              rotate_left
              · simp only [Act.put, List.setIfInBounds_toArray, List.set_cons_zero, List.set_cons_succ, i64_w, i32_w]
                rfl
              refine pure_ (i := 24) (N := some 78) (v := ?_) (a' := ?_) #[true, true, true, true, true, true, true, true, true, true, true, true, true, true, true, true, true, true, true, true, true, true, true, true, true, false, false, false, false, false, false, false, false, false, false, false, false, false, false, false, false, false, false] rfl rfl (any_of HT_.out (by kernel_rfl)) (fun _ _ _ h => h) (Or.inl ⟨by rfl, ?_⟩) ?_ ?_
              rotate_left
              · intro w'
                go_simp
                with_reducible rfl
              rotate_left
              · simp only [Act.put, List.setIfInBounds_toArray, List.set_cons_zero, List.set_cons_succ, i64_w, i32_w]
                rfl
              refine pure_ (i := 25) (N := some 79) (v := undef) (a' := ?_) #[true, true, true, true, true, true, true, true, true, true, true, true, true, true, true, true, true, true, true, true, true, true, true, true, true, true, false, false, false, false, false, false, false, false, false, false, false, false, false, false, false, false, false] rfl rfl (any_of HT_.out (by kernel_rfl)) (fun _ _ _ h => h) (Or.inr ⟨by rfl, rfl⟩) ?_ ?_
              rotate_left
              · simp only [Act.put, List.setIfInBounds_toArray, List.set_cons_zero, List.set_cons_succ, i64_w, i32_w]
                rfl
              refine pure_ (i := 26) (N := some 80) (v := undef) (a' := ?_) #[true, true, true, true, true, true, true, true, true, true, true, true, true, true, true, true, true, true, true, true, true, true, true, true, true, true, true, false, false, false, false, false, false, false, false, false, false, false, false, false, false, false, false] rfl rfl (any_of HT_.out (by kernel_rfl)) (fun _ _ _ h => h) (Or.inr ⟨by rfl, rfl⟩) ?_ ?_
              rotate_left
              · simp only [Act.put, List.setIfInBounds_toArray, List.set_cons_zero, List.set_cons_succ, i64_w, i32_w]
                rfl
              refine pure_ (i := 27) (N := some 81) (v := ?_) (a' := ?_) #[true, true, true, true, true, true, true, true, true, true, true, true, true, true, true, true, true, true, true, true, true, true, true, true, true, true, true, true, false, false, false, false, false, false, false, false, false, false, false, false, false, false, false] rfl rfl (any_of HT_.out (by kernel_rfl)) (fun _ _ _ h => h) (Or.inl ⟨by rfl, ?_⟩) ?_ ?_
              rotate_left
              · intro w'
                go_simp
                with_reducible rfl
              rotate_left
              · simp only [Act.put, List.setIfInBounds_toArray, List.set_cons_zero, List.set_cons_succ, i64_w, i32_w]
                rfl
              refine pure_ (i := 28) (N := some 82) (v := ?_) (a' := ?_) #[true, true, true, true, true, true, true, true, true, true, true, true, true, true, true, true, true, true, true, true, true, true, true, true, true, true, true, true, true, false, false, false, false, false, false, false, false, false, false, false, false, false, false] rfl rfl (any_of HT_.out (by kernel_rfl)) (fun _ _ _ h => h) (Or.inl ⟨by rfl, ?_⟩) ?_ ?_
              rotate_left
              · intro w'
                go_simp
                with_reducible rfl
              rotate_left
              · simp only [Act.put, List.setIfInBounds_toArray, List.set_cons_zero, List.set_cons_succ, i64_w, i32_w]
                rfl
              refine pure_ (i := 29) (N := some 83) (v := ?_) (a' := ?_) #[true, true, true, true, true, true, true, true, true, true, true, true, true, true, true, true, true, true, true, true, true, true, true, true, true, true, true, true, true, true, false, false, false, false, false, false, false, false, false, false, false, false, false] rfl rfl (any_of HT_.out (by kernel_rfl)) (fun _ _ _ h => h) (Or.inl ⟨by rfl, ?_⟩) ?_ ?_
              rotate_left
              · intro w'
                go_simp
                with_reducible rfl
              rotate_left
              · simp only [Act.put, List.setIfInBounds_toArray, List.set_cons_zero, List.set_cons_succ, i64_w, i32_w]
                rfl
              refine take_ (i := 30) (N := some 84) (v := ?_) (a' := ?_) #[true, true, true, true, true, true, true, true, true, true, true, true, true, true, true, true, true, true, true, true, true, true, true, true, true, true, true, true, true, true, true, false, false, false, false, false, false, false, false, false, false, false, false] rfl rfl (take_ofW HT_.out HW_.out (by kernel_rfl)) (fun _ _ _ h => h) (Or.inl ⟨by rfl, ?_⟩) hHeld ?_ ?_
              rotate_left
              · rintro w' ⟨s0, s1, s2, s3, s4, s5, s6, s7, s8, s9, s10, s11, s12, s13, s14⟩
                go_simp
                with_reducible rfl
              rotate_left
              · simp only [Act.put, List.setIfInBounds_toArray, List.set_cons_zero, List.set_cons_succ, i64_w, i32_w]
                rfl
              refine take_ (i := 31) (N := some 85) (v := ?_) (a' := ?_) #[true, true, true, true, true, true, true, true, true, true, true, true, true, true, true, true, true, true, true, true, true, true, true, true, true, true, true, true, true, true, true, true, false, false, false, false, false, false, false, false, false, false, false] rfl rfl (take_ofW HT_.out HW_.out (by kernel_rfl)) (fun _ _ _ h => h) (Or.inl ⟨by rfl, ?_⟩) hHeld ?_ ?_
              rotate_left
              · rintro w' ⟨s0, s1, s2, s3, s4, s5, s6, s7, s8, s9, s10, s11, s12, s13, s14⟩
                go_simp
                with_reducible rfl
              rotate_left
              · simp only [Act.put, List.setIfInBounds_toArray, List.set_cons_zero, List.set_cons_succ, i64_w, i32_w]
                rfl
              refine take_ (i := 32) (N := some 86) (v := ?_) (a' := ?_) #[true, true, true, true, true, true, true, true, true, true, true, true, true, true, true, true, true, true, true, true, true, true, true, true, true, true, true, true, true, true, true, true, true, false, false, false, false, false, false, false, false, false, false] rfl rfl (take_ofW HT_.out HW_.out (by kernel_rfl)) (fun _ _ _ h => h) (Or.inl ⟨by rfl, ?_⟩) hHeld ?_ ?_
              rotate_left
              · rintro w' ⟨s0, s1, s2, s3, s4, s5, s6, s7, s8, s9, s10, s11, s12, s13, s14⟩
                go_simp
                with_reducible rfl
              rotate_left
              · simp only [Act.put, List.setIfInBounds_toArray, List.set_cons_zero, List.set_cons_succ, i64_w, i32_w]
                rfl
              refine take_ (i := 35) (N := some 89) (v := ?_) (a' := ?_) #[true, true, true, true, true, true, true, true, true, true, true, true, true, true, true, true, true, true, true, true, true, true, true, true, true, true, true, true, true, true, true, true, true, false, false, true, false, false, false, false, false, false, false] rfl rfl (take_ofW HT_.out HW_.out (by kernel_rfl)) (fun _ _ _ h => h) (Or.inl ⟨by rfl, ?_⟩) hHeld ?_ ?_
              rotate_left
              · rintro w' ⟨s0, s1, s2, s3, s4, s5, s6, s7, s8, s9, s10, s11, s12, s13, s14⟩
                go_simp
                with_reducible rfl
              rotate_left
              · simp only [Act.put, List.setIfInBounds_toArray, List.set_cons_zero, List.set_cons_succ, i64_w, i32_w]
                rfl
              refine take_ (i := 36) (N := some 90) (v := ?_) (a' := ?_) #[true, true, true, true, true, true, true, true, true, true, true, true, true, true, true, true, true, true, true, true, true, true, true, true, true, true, true, true, true, true, true, true, true, false, false, true, true, false, false, false, false, false, false] rfl rfl (take_ofW HT_.out HW_.out (by kernel_rfl)) (fun _ _ _ h => h) (Or.inl ⟨by rfl, ?_⟩) hHeld ?_ ?_
              rotate_left
              · rintro w' ⟨s0, s1, s2, s3, s4, s5, s6, s7, s8, s9, s10, s11, s12, s13, s14⟩
                go_simp
                with_reducible rfl
              rotate_left
              · simp only [Act.put, List.setIfInBounds_toArray, List.set_cons_zero, List.set_cons_succ, i64_w, i32_w]
                rfl
              refine take_ (i := 38) (N := some 92) (v := ?_) (a' := ?_) #[true, true, true, true, true, true, true, true, true, true, true, true, true, true, true, true, true, true, true, true, true, true, true, true, true, true, true, true, true, true, true, true, true, false, false, true, true, false, true, false, false, false, false] rfl rfl (take_ofW HT_.out HW_.out (by kernel_rfl)) (fun _ _ _ h => h) (Or.inl ⟨by rfl, ?_⟩) hHeld ?_ ?_
              rotate_left
              · rintro w' ⟨s0, s1, s2, s3, s4, s5, s6, s7, s8, s9, s10, s11, s12, s13, s14⟩
                go_simp
                with_reducible rfl
              rotate_left
              · simp only [Act.put, List.setIfInBounds_toArray, List.set_cons_zero, List.set_cons_succ, i64_w, i32_w]
                rfl
              refine one_ (i := 33) (N := some 87) #[true, true, true, true, true, true, true, true, true, true, true, true, true, true, true, true, true, true, true, true, true, true, true, true, true, true, true, true, true, true, true, true, true, true, false, true, true, false, true, false, false, false, false] rfl rfl (one_of HT_.out (by kernel_rfl)) (by decide) (fun K hK => ?_)
              refine goes_ Tryd.func15 (by kernel_rfl) rfl #[.agg #[.int .u64 t483, .int .u64 t484, .int .u64 t485, .int .u64 t486, .int .i64 t487], .agg #[.int .u64 t489, .int .u64 t490, .int .u64 t491, .int .u64 t492, .int .i64 t493]] (by rfl) rfl rfl (by (try simp only [List.map_toArray, List.map_cons, List.map_nil]); first | done | rfl | (simp only [List.length_drop, List.length_take]; rfl)) ?_
              with_reducible refine (stamp_Later.calls kj80 t483 t484 t485 t486 t487 t489 t490 t491 t492 t493 t560 t561 t562 t563 t564 _ A154.out).mono ?_
              rintro e w161 ⟨rfl, hb⟩
              refine ⟨_, rfl, ?_⟩
              replace BK473 := Kb_ BK473 hb
              replace BK474 := Kb_ BK474 hb
              replace BK475 := Kb_ BK475 hb
              replace BK482 := Kb_ BK482 hb
              replace BK488 := Kb_ BK488 hb
              replace BK494 := Kb_ BK494 hb
              replace HB := Ks_ HB hb
              (try clear hb)
              (try clear hb2)
              (try clear hk)
              (try clear hi)
              refine hK.out _ _ ⟨(blk_cell BK488.out 0).trans rfl, (blk_cell BK488.out 1).trans rfl, (blk_cell BK488.out 2).trans rfl, (blk_cell BK488.out 3).trans rfl, (blk_cell BK488.out 4).trans rfl, (blk_cell BK482.out 0).trans rfl, (blk_cell BK482.out 1).trans rfl, (blk_cell BK482.out 2).trans rfl, (blk_cell BK482.out 3).trans rfl, (blk_cell BK482.out 4).trans rfl, (blk_cell BK494.out 0).trans rfl, (blk_cell BK494.out 1).trans rfl, (blk_cell BK494.out 2).trans rfl, (blk_cell BK494.out 3).trans rfl, (blk_cell BK494.out 4).trans rfl⟩ (fun hHeld => ?_)
              clear hK K
              refine norm_ (a' := ?_) ?_ ?_
              rotate_left
              · show Act.put _ (some 87) _ = _
                simp only [Act.put, List.setIfInBounds_toArray, List.set_cons_zero, List.set_cons_succ, i64_w, i32_w]
                rfl
              refine one_ (i := 34) (N := some 88) #[true, true, true, true, true, true, true, true, true, true, true, true, true, true, true, true, true, true, true, true, true, true, true, true, true, true, true, true, true, true, true, true, true, true, true, true, true, false, true, false, false, false, false] rfl rfl (one_of HT_.out (by kernel_rfl)) (by decide) (fun K hK => ?_)
              refine goes_ Tryd.func15 (by kernel_rfl) rfl #[.agg #[.int .u64 t477, .int .u64 t478, .int .u64 t479, .int .u64 t480, .int .i64 t481], .agg #[.int .u64 t560, .int .u64 t561, .int .u64 t562, .int .u64 t563, .int .i64 t564]] (by rfl) rfl rfl (by (try simp only [List.map_toArray, List.map_cons, List.map_nil]); first | done | rfl | (simp only [List.length_drop, List.length_take]; rfl)) ?_
              with_reducible refine (stamp_Later.calls kj80 t477 t478 t479 t480 t481 t560 t561 t562 t563 t564 t565 t566 t567 t568 t569 _ A155.out).mono ?_
              rintro e w162 ⟨rfl, hb⟩
              refine ⟨_, rfl, ?_⟩
              replace BK473 := Kb_ BK473 hb
              replace BK474 := Kb_ BK474 hb
              replace BK475 := Kb_ BK475 hb
              replace BK482 := Kb_ BK482 hb
              replace BK488 := Kb_ BK488 hb
              replace BK494 := Kb_ BK494 hb
              replace HB := Ks_ HB hb
              (try clear hb)
              (try clear hb2)
              (try clear hk)
              (try clear hi)
              refine hK.out _ _ ⟨(blk_cell BK488.out 0).trans rfl, (blk_cell BK488.out 1).trans rfl, (blk_cell BK488.out 2).trans rfl, (blk_cell BK488.out 3).trans rfl, (blk_cell BK488.out 4).trans rfl, (blk_cell BK482.out 0).trans rfl, (blk_cell BK482.out 1).trans rfl, (blk_cell BK482.out 2).trans rfl, (blk_cell BK482.out 3).trans rfl, (blk_cell BK482.out 4).trans rfl, (blk_cell BK494.out 0).trans rfl, (blk_cell BK494.out 1).trans rfl, (blk_cell BK494.out 2).trans rfl, (blk_cell BK494.out 3).trans rfl, (blk_cell BK494.out 4).trans rfl⟩ (fun hHeld => ?_)
              clear hK K
              refine norm_ (a' := ?_) ?_ ?_
              rotate_left
              · show Act.put _ (some 88) _ = _
                simp only [Act.put, List.setIfInBounds_toArray, List.set_cons_zero, List.set_cons_succ, i64_w, i32_w]
                rfl
              refine one_ (i := 37) (N := some 91) #[true, true, true, true, true, true, true, true, true, true, true, true, true, true, true, true, true, true, true, true, true, true, true, true, true, true, true, true, true, true, true, true, true, true, true, true, true, true, true, false, false, false, false] rfl rfl (one_of HT_.out (by kernel_rfl)) (by decide) (fun K hK => ?_)
              refine goes_ Tryd.func15 (by kernel_rfl) rfl #[.agg #[.int .u64 t489, .int .u64 t490, .int .u64 t491, .int .u64 t492, .int .i64 t493], .agg #[.int .u64 t477, .int .u64 t478, .int .u64 t479, .int .u64 t480, .int .i64 t481]] (by rfl) rfl rfl (by (try simp only [List.map_toArray, List.map_cons, List.map_nil]); first | done | rfl | (simp only [List.length_drop, List.length_take]; rfl)) ?_
              with_reducible refine (stamp_Later.calls kj80 t489 t490 t491 t492 t493 t477 t478 t479 t480 t481 t570 t571 t572 t573 t574 _ A156.out).mono ?_
              rintro e w163 ⟨rfl, hb⟩
              refine ⟨_, rfl, ?_⟩
              replace BK473 := Kb_ BK473 hb
              replace BK474 := Kb_ BK474 hb
              replace BK475 := Kb_ BK475 hb
              replace BK482 := Kb_ BK482 hb
              replace BK488 := Kb_ BK488 hb
              replace BK494 := Kb_ BK494 hb
              replace HB := Ks_ HB hb
              (try clear hb)
              (try clear hb2)
              (try clear hk)
              (try clear hi)
              refine hK.out _ _ ⟨(blk_cell BK488.out 0).trans rfl, (blk_cell BK488.out 1).trans rfl, (blk_cell BK488.out 2).trans rfl, (blk_cell BK488.out 3).trans rfl, (blk_cell BK488.out 4).trans rfl, (blk_cell BK482.out 0).trans rfl, (blk_cell BK482.out 1).trans rfl, (blk_cell BK482.out 2).trans rfl, (blk_cell BK482.out 3).trans rfl, (blk_cell BK482.out 4).trans rfl, (blk_cell BK494.out 0).trans rfl, (blk_cell BK494.out 1).trans rfl, (blk_cell BK494.out 2).trans rfl, (blk_cell BK494.out 3).trans rfl, (blk_cell BK494.out 4).trans rfl⟩ (fun hHeld => ?_)
              clear hK K
              refine norm_ (a' := ?_) ?_ ?_
              rotate_left
              · show Act.put _ (some 91) _ = _
                simp only [Act.put, List.setIfInBounds_toArray, List.set_cons_zero, List.set_cons_succ, i64_w, i32_w]
                rfl
              refine one_ (i := 39) (N := some 93) #[true, true, true, true, true, true, true, true, true, true, true, true, true, true, true, true, true, true, true, true, true, true, true, true, true, true, true, true, true, true, true, true, true, true, true, true, true, true, true, true, false, false, false] rfl rfl (one_of HT_.out (by kernel_rfl)) (by decide) (fun K hK => ?_)
              refine goes_ Tryd.func15 (by kernel_rfl) rfl #[.agg #[.int .u64 t570, .int .u64 t571, .int .u64 t572, .int .u64 t573, .int .i64 t574], .agg #[.int .u64 t483, .int .u64 t484, .int .u64 t485, .int .u64 t486, .int .i64 t487]] (by rfl) rfl rfl (by (try simp only [List.map_toArray, List.map_cons, List.map_nil]); first | done | rfl | (simp only [List.length_drop, List.length_take]; rfl)) ?_
              with_reducible refine (stamp_Later.calls kj80 t570 t571 t572 t573 t574 t483 t484 t485 t486 t487 t575 t576 t577 t578 t579 _ A157.out).mono ?_
              rintro e w164 ⟨rfl, hb⟩
              refine ⟨_, rfl, ?_⟩
              replace BK473 := Kb_ BK473 hb
              replace BK474 := Kb_ BK474 hb
              replace BK475 := Kb_ BK475 hb
              replace BK482 := Kb_ BK482 hb
              replace BK488 := Kb_ BK488 hb
              replace BK494 := Kb_ BK494 hb
              replace HB := Ks_ HB hb
              (try clear hb)
              (try clear hb2)
              (try clear hk)
              (try clear hi)
              refine hK.out _ _ ⟨(blk_cell BK488.out 0).trans rfl, (blk_cell BK488.out 1).trans rfl, (blk_cell BK488.out 2).trans rfl, (blk_cell BK488.out 3).trans rfl, (blk_cell BK488.out 4).trans rfl, (blk_cell BK482.out 0).trans rfl, (blk_cell BK482.out 1).trans rfl, (blk_cell BK482.out 2).trans rfl, (blk_cell BK482.out 3).trans rfl, (blk_cell BK482.out 4).trans rfl, (blk_cell BK494.out 0).trans rfl, (blk_cell BK494.out 1).trans rfl, (blk_cell BK494.out 2).trans rfl, (blk_cell BK494.out 3).trans rfl, (blk_cell BK494.out 4).trans rfl⟩ (fun hHeld => ?_)
              clear hK K
              refine norm_ (a' := ?_) ?_ ?_
              rotate_left
              · show Act.put _ (some 93) _ = _
                simp only [Act.put, List.setIfInBounds_toArray, List.set_cons_zero, List.set_cons_succ, i64_w, i32_w]
                rfl
              refine pure_ (i := 40) (N := some 94) (v := ?_) (a' := ?_) #[true, true, true, true, true, true, true, true, true, true, true, true, true, true, true, true, true, true, true, true, true, true, true, true, true, true, true, true, true, true, true, true, true, true, true, true, true, true, true, true, true, false, false] rfl rfl (any_of HT_.out (by kernel_rfl)) (fun _ _ _ h => h) (Or.inl ⟨by rfl, ?_⟩) ?_ ?_
              rotate_left
              · intro w'
                go_simp
                with_reducible rfl
              rotate_left
              · simp only [Act.put, List.setIfInBounds_toArray, List.set_cons_zero, List.set_cons_succ, i64_w, i32_w]
                rfl
              refine pure_ (i := 41) (N := some 95) (v := ?_) (a' := ?_) #[true, true, true, true, true, true, true, true, true, true, true, true, true, true, true, true, true, true, true, true, true, true, true, true, true, true, true, true, true, true, true, true, true, true, true, true, true, true, true, true, true, true, false] rfl rfl (any_of HT_.out (by kernel_rfl)) (fun _ _ _ h => h) (Or.inl ⟨by rfl, ?_⟩) ?_ ?_
              rotate_left
              · intro w'
                go_simp
                with_reducible rfl
              rotate_left
              · simp only [Act.put, List.setIfInBounds_toArray, List.set_cons_zero, List.set_cons_succ, i64_w, i32_w]
                rfl
              refine pure_ (i := 42) (N := some 6) (v := ?_) (a' := ?_) #[true, true, true, true, true, true, true, true, true, true, true, true, true, true, true, true, true, true, true, true, true, true, true, true, true, true, true, true, true, true, true, true, true, true, true, true, true, true, true, true, true, true, true] rfl rfl (any_of HT_.out (by kernel_rfl)) (fun _ _ _ h => h) (Or.inl ⟨by rfl, ?_⟩) ?_ ?_
              rotate_left
              · intro w'
                go_simp
                with_reducible rfl
              rotate_left
              · simp only [Act.put, List.setIfInBounds_toArray, List.set_cons_zero, List.set_cons_succ, i64_w, i32_w]
                rfl
              refine done_ (done_of HT_.out (by kernel_rfl)) ?_
              try go_wp2
              go_ret
              exact ⟨by first | rfl | (simp [errW_none, errW_some] <;> rfl) | (simp [*, errW_none, errW_some] <;> rfl), by repeat (first | (with_reducible first | exact HB.out | apply below_alloc | apply pw_below_drewN | apply below_drew1 | refine below_set ?_ GE473.out | refine below_set ?_ GE474.out | refine below_set ?_ GE475.out | refine below_set ?_ GE482.out | refine below_set ?_ GE488.out | refine below_set ?_ GE494.out) | exact HB.out)⟩
            subst c141
            have H1 : (if t495 < 0 then ((stamp_Later.f kj80 t483 t484 t485 t486 t487 t489 t490 t491 t492 t493).bind fun bt540 => ((stamp_Later.f kj80 t477 t478 t479 t480 t481 bt540.1 bt540.2.1 bt540.2.2.1 bt540.2.2.2.1 bt540.2.2.2.2).bind fun bt545 => ((stamp_Later.f kj80 t489 t490 t491 t492 t493 t477 t478 t479 t480 t481).bind fun bt550 => ((stamp_Later.f kj80 bt550.1 bt550.2.1 bt550.2.2.1 bt550.2.2.2.1 bt550.2.2.2.2 t483 t484 t485 t486 t487).bind fun bt555 => (if ((bt545.1 == bt555.1 && (bt545.2.1 == bt555.2.1 && (bt545.2.2.1 == bt555.2.2.1 && (bt545.2.2.2.1 == bt555.2.2.2.1)))) && (bt545.2.2.2.2 == bt555.2.2.2.2)) = true then (some true) else (none)))))) else (none)) = some r := by rw [if_pos rfl] at H; exact H
            clear H
            have H := H1
            clear H1
            by_cases c142 : t495 < 0
            rotate_left
            · rw [if_neg c142] at H
              exact absurd H (by simp)
            rw [if_pos c142] at H
            have c142b0 : decide (t495 < 0) = true := decide_eq_true c142
            clear c142
            replace H := Option.bind_eq_some_iff.mp H
            obtain ⟨⟨t540, t541, t542, t543, t544⟩, A1430, H⟩ := H
            replace H : ((stamp_Later.f kj80 t477 t478 t479 t480 t481 t540 t541 t542 t543 t544).bind fun bt545 => ((stamp_Later.f kj80 t489 t490 t491 t492 t493 t477 t478 t479 t480 t481).bind fun bt550 => ((stamp_Later.f kj80 bt550.1 bt550.2.1 bt550.2.2.1 bt550.2.2.2.1 bt550.2.2.2.2 t483 t484 t485 t486 t487).bind fun bt555 => (if ((bt545.1 == bt555.1 && (bt545.2.1 == bt555.2.1 && (bt545.2.2.1 == bt555.2.2.1 && (bt545.2.2.2.1 == bt555.2.2.2.1)))) && (bt545.2.2.2.2 == bt555.2.2.2.2)) = true then (some true) else (none))))) = some r := H
            have A143 := Aside0.mk A1430
            clear A1430
            replace H := Option.bind_eq_some_iff.mp H
            obtain ⟨⟨t545, t546, t547, t548, t549⟩, A1440, H⟩ := H
            replace H : ((stamp_Later.f kj80 t489 t490 t491 t492 t493 t477 t478 t479 t480 t481).bind fun bt550 => ((stamp_Later.f kj80 bt550.1 bt550.2.1 bt550.2.2.1 bt550.2.2.2.1 bt550.2.2.2.2 t483 t484 t485 t486 t487).bind fun bt555 => (if ((t545 == bt555.1 && (t546 == bt555.2.1 && (t547 == bt555.2.2.1 && (t548 == bt555.2.2.2.1)))) && (t549 == bt555.2.2.2.2)) = true then (some true) else (none)))) = some r := H
            have A144 := Aside0.mk A1440
            clear A1440
            replace H := Option.bind_eq_some_iff.mp H
            obtain ⟨⟨t550, t551, t552, t553, t554⟩, A1450, H⟩ := H
            replace H : ((stamp_Later.f kj80 t550 t551 t552 t553 t554 t483 t484 t485 t486 t487).bind fun bt555 => (if ((t545 == bt555.1 && (t546 == bt555.2.1 && (t547 == bt555.2.2.1 && (t548 == bt555.2.2.2.1)))) && (t549 == bt555.2.2.2.2)) = true then (some true) else (none))) = some r := H
            have A145 := Aside0.mk A1450
            clear A1450
            replace H := Option.bind_eq_some_iff.mp H
            obtain ⟨⟨t555, t556, t557, t558, t559⟩, A1460, H⟩ := H
            replace H : (if ((t545 == t555 && (t546 == t556 && (t547 == t557 && (t548 == t558)))) && (t549 == t559)) = true then (some true) else (none)) = some r := H
            have A146 := Aside0.mk A1460
            clear A1460
            by_cases c147 : ((t545 == t555 && (t546 == t556 && (t547 == t557 && (t548 == t558)))) && (t549 == t559)) = true
            rotate_left
            · rw [if_neg c147] at H
              exact absurd H (by simp)
            rw [if_pos c147] at H
            have c147b0 : ((t545 == t555 && (t546 == t556 && (t547 == t557 && (t548 == t558)))) && (t549 == t559)) = true := c147
            clear c147
            obtain rfl := Option.some.inj H
            try go_wp2
            replace BK473 := Kd_ BK473
            replace BK474 := Kd_ BK474
            replace BK475 := Kd_ BK475
            replace BK482 := Kd_ BK482
            replace BK488 := Kd_ BK488
            replace BK494 := Kd_ BK494
            replace HB := Aside0.mk (below_drew1 HB.out)
            refine start_ (n := 43) (S := fun w' => w'.cell? ⟨gb488, 0, none⟩ = some (.int .u64 t483) ∧ w'.cell? ⟨gb488, 1, none⟩ = some (.int .u64 t484) ∧ w'.cell? ⟨gb488, 2, none⟩ = some (.int .u64 t485) ∧ w'.cell? ⟨gb488, 3, none⟩ = some (.int .u64 t486) ∧ w'.cell? ⟨gb488, 4, none⟩ = some (.int .i64 t487) ∧ w'.cell? ⟨gb482, 0, none⟩ = some (.int .u64 t477) ∧ w'.cell? ⟨gb482, 1, none⟩ = some (.int .u64 t478) ∧ w'.cell? ⟨gb482, 2, none⟩ = some (.int .u64 t479) ∧ w'.cell? ⟨gb482, 3, none⟩ = some (.int .u64 t480) ∧ w'.cell? ⟨gb482, 4, none⟩ = some (.int .i64 t481) ∧ w'.cell? ⟨gb494, 0, none⟩ = some (.int .u64 t489) ∧ w'.cell? ⟨gb494, 1, none⟩ = some (.int .u64 t490) ∧ w'.cell? ⟨gb494, 2, none⟩ = some (.int .u64 t491) ∧ w'.cell? ⟨gb494, 3, none⟩ = some (.int .u64 t492) ∧ w'.cell? ⟨gb494, 4, none⟩ = some (.int .i64 t493)) (ds := []) #[false, false, false, false, false, false, false, false, false, false, false, false, false, false, false, false, false, false, false, false, false, false, false, false, false, false, false, false, false, false, false, false, false, false, false, false, false, false, false, false, false, false, false] (by kernel_rfl) rfl rfl ⟨(blk_cell BK488.out 0).trans rfl, (blk_cell BK488.out 1).trans rfl, (blk_cell BK488.out 2).trans rfl, (blk_cell BK488.out 3).trans rfl, (blk_cell BK488.out 4).trans rfl, (blk_cell BK482.out 0).trans rfl, (blk_cell BK482.out 1).trans rfl, (blk_cell BK482.out 2).trans rfl, (blk_cell BK482.out 3).trans rfl, (blk_cell BK482.out 4).trans rfl, (blk_cell BK494.out 0).trans rfl, (blk_cell BK494.out 1).trans rfl, (blk_cell BK494.out 2).trans rfl, (blk_cell BK494.out 3).trans rfl, (blk_cell BK494.out 4).trans rfl⟩ (fun hHeld => ?_); refine with_tabW tenementlaw07_StampOrder.tab13 tenementlaw07_StampOrder.bits13 (fun HT_ HW_ => ?_)
            generalize wc.drew = w148 at BK473 BK474 BK475 BK482 BK488 BK494 HB hHeld ⊢
            refine pure_ (i := 0) (N := some 54) (v := ?_) (a' := ?_) #[true, false, false, false, false, false, false, false, false, false, false, false, false, false, false, false, false, false, false, false, false, false, false, false, false, false, false, false, false, false, false, false, false, false, false, false, false, false, false, false, false, false, false] rfl rfl (any_of HT_.out (by kernel_rfl)) (fun _ _ _ h => h) (Or.inl ⟨by rfl, ?_⟩) ?_ ?_
            rotate_left
            · intro w'
              go_simp
              with_reducible rfl
            rotate_left
            · simp only [Act.put, List.setIfInBounds_toArray, List.set_cons_zero, List.set_cons_succ, i64_w, i32_w]
              rfl
            refine pure_ (i := 1) (N := some 55) (v := ?_) (a' := ?_) #[true, true, false, false, false, false, false, false, false, false, false, false, false, false, false, false, false, false, false, false, false, false, false, false, false, false, false, false, false, false, false, false, false, false, false, false, false, false, false, false, false, false, false] rfl rfl (any_of HT_.out (by kernel_rfl)) (fun _ _ _ h => h) (Or.inl ⟨by rfl, ?_⟩) ?_ ?_
            rotate_left
            · intro w'
              go_simp
              with_reducible rfl
            rotate_left
            · simp only [Act.put, List.setIfInBounds_toArray, List.set_cons_zero, List.set_cons_succ, i64_w, i32_w]
              rfl
            refine pure_ (i := 2) (N := some 56) (v := ?_) (a' := ?_) #[true, true, true, false, false, false, false, false, false, false, false, false, false, false, false, false, false, false, false, false, false, false, false, false, false, false, false, false, false, false, false, false, false, false, false, false, false, false, false, false, false, false, false] rfl rfl (any_of HT_.out (by kernel_rfl)) (fun _ _ _ h => h) (Or.inl ⟨by rfl, ?_⟩) ?_ ?_
            rotate_left
            · intro w'
              go_simp
              with_reducible rfl
            rotate_left
            · simp only [Act.put, List.setIfInBounds_toArray, List.set_cons_zero, List.set_cons_succ, i64_w, i32_w]
              rfl
            refine take_ (i := 3) (N := some 57) (v := ?_) (a' := ?_) #[true, true, true, true, false, false, false, false, false, false, false, false, false, false, false, false, false, false, false, false, false, false, false, false, false, false, false, false, false, false, false, false, false, false, false, false, false, false, false, false, false, false, false] rfl rfl (take_ofW HT_.out HW_.out (by kernel_rfl)) (fun _ _ _ h => h) (Or.inl ⟨by rfl, ?_⟩) hHeld ?_ ?_
            rotate_left
            · rintro w' ⟨s0, s1, s2, s3, s4, s5, s6, s7, s8, s9, s10, s11, s12, s13, s14⟩
              go_simp
              with_reducible rfl
            rotate_left
            · simp only [Act.put, List.setIfInBounds_toArray, List.set_cons_zero, List.set_cons_succ, i64_w, i32_w]
              rfl
            refine take_ (i := 4) (N := some 58) (v := ?_) (a' := ?_) #[true, true, true, true, true, false, false, false, false, false, false, false, false, false, false, false, false, false, false, false, false, false, false, false, false, false, false, false, false, false, false, false, false, false, false, false, false, false, false, false, false, false, false] rfl rfl (take_ofW HT_.out HW_.out (by kernel_rfl)) (fun _ _ _ h => h) (Or.inl ⟨by rfl, ?_⟩) hHeld ?_ ?_
            rotate_left
            · rintro w' ⟨s0, s1, s2, s3, s4, s5, s6, s7, s8, s9, s10, s11, s12, s13, s14⟩
              go_simp
              with_reducible rfl
            rotate_left
            · simp only [Act.put, List.setIfInBounds_toArray, List.set_cons_zero, List.set_cons_succ, i64_w, i32_w]
              rfl
            refine one_ (i := 5) (N := some 59) #[true, true, true, true, true, true, false, false, false, false, false, false, false, false, false, false, false, false, false, false, false, false, false, false, false, false, false, false, false, false, false, false, false, false, false, false, false, false, false, false, false, false, false] rfl rfl (one_of HT_.out (by kernel_rfl)) (by decide) (fun K hK => ?_)
            refine goes_ Tryd.func21 (by kernel_rfl) rfl #[.agg #[.int .u64 t483, .int .u64 t484, .int .u64 t485, .int .u64 t486, .int .i64 t487], .agg #[.int .u64 t477, .int .u64 t478, .int .u64 t479, .int .u64 t480, .int .i64 t481]] (by rfl) rfl rfl (by (try simp only [List.map_toArray, List.map_cons, List.map_nil]); first | done | rfl | (simp only [List.length_drop, List.length_take]; rfl)) ?_
            with_reducible refine (stamp_Order.calls kj80 t483 t484 t485 t486 t487 t477 t478 t479 t480 t481 t499 _ A110.out).mono ?_
            rintro e w149 ⟨rfl, hb⟩
            refine ⟨_, rfl, ?_⟩
            replace BK473 := Kb_ BK473 hb
            replace BK474 := Kb_ BK474 hb
            replace BK475 := Kb_ BK475 hb
            replace BK482 := Kb_ BK482 hb
            replace BK488 := Kb_ BK488 hb
            replace BK494 := Kb_ BK494 hb
            replace HB := Ks_ HB hb
            (try clear hb)
            (try clear hb2)
            (try clear hk)
            (try clear hi)
            refine hK.out _ _ ⟨(blk_cell BK488.out 0).trans rfl, (blk_cell BK488.out 1).trans rfl, (blk_cell BK488.out 2).trans rfl, (blk_cell BK488.out 3).trans rfl, (blk_cell BK488.out 4).trans rfl, (blk_cell BK482.out 0).trans rfl, (blk_cell BK482.out 1).trans rfl, (blk_cell BK482.out 2).trans rfl, (blk_cell BK482.out 3).trans rfl, (blk_cell BK482.out 4).trans rfl, (blk_cell BK494.out 0).trans rfl, (blk_cell BK494.out 1).trans rfl, (blk_cell BK494.out 2).trans rfl, (blk_cell BK494.out 3).trans rfl, (blk_cell BK494.out 4).trans rfl⟩ (fun hHeld => ?_)
            clear hK K
            refine norm_ (a' := ?_) ?_ ?_
            rotate_left
            · show Act.put _ (some 59) _ = _
              simp only [Act.put, List.setIfInBounds_toArray, List.set_cons_zero, List.set_cons_succ, i64_w, i32_w]
              rfl
            refine pure_ (i := 6) (N := some 60) (v := ?_) (a' := ?_) #[true, true, true, true, true, true, true, false, false, false, false, false, false, false, false, false, false, false, false, false, false, false, false, false, false, false, false, false, false, false, false, false, false, false, false, false, false, false, false, false, false, false, false] rfl rfl (any_of HT_.out (by kernel_rfl)) (fun _ _ _ h => h) (Or.inl ⟨by rfl, ?_⟩) ?_ ?_
            rotate_left
            · intro w'
              go_simp
              with_reducible rfl
            rotate_left
            · simp only [Act.put, List.setIfInBounds_toArray, List.set_cons_zero, List.set_cons_succ, i64_w, i32_w]
              rfl
            refine pure_ (i := 7) (N := some 61) (v := ?_) (a' := ?_) #[true, true, true, true, true, true, true, true, false, false, false, false, false, false, false, false, false, false, false, false, false, false, false, false, false, false, false, false, false, false, false, false, false, false, false, false, false, false, false, false, false, false, false] rfl rfl (any_of HT_.out (by kernel_rfl)) (fun _ _ _ h => h) (Or.inl ⟨by rfl, ?_⟩) ?_ ?_
            rotate_left
            · intro w'
              go_simp
              with_reducible rfl
            rotate_left
            · simp only [Act.put, List.setIfInBounds_toArray, List.set_cons_zero, List.set_cons_succ, i64_w, i32_w]
              rfl
            refine pure_ (i := 8) (N := some 62) (v := ?_) (a' := ?_) #[true, true, true, true, true, true, true, true, true, false, false, false, false, false, false, false, false, false, false, false, false, false, false, false, false, false, false, false, false, false, false, false, false, false, false, false, false, false, false, false, false, false, false] rfl rfl (any_of HT_.out (by kernel_rfl)) (fun _ _ _ h => h) (Or.inl ⟨by rfl, ?_⟩) ?_ ?_
            rotate_left
            · intro w'
              go_simp
              with_reducible rfl
            rotate_left
            · simp only [Act.put, List.setIfInBounds_toArray, List.set_cons_zero, List.set_cons_succ, i64_w, i32_w]
              rfl
            refine pure_ (i := 9) (N := some 63) (v := ?_) (a' := ?_) #[true, true, true, true, true, true, true, true, true, true, false, false, false, false, false, false, false, false, false, false, false, false, false, false, false, false, false, false, false, false, false, false, false, false, false, false, false, false, false, false, false, false, false] rfl rfl (any_of HT_.out (by kernel_rfl)) (fun _ _ _ h => h) (Or.inl ⟨by rfl, ?_⟩) ?_ ?_
            rotate_left
            · intro w'
              go_simp
              with_reducible rfl
            rotate_left
            · simp only [Act.put, List.setIfInBounds_toArray, List.set_cons_zero, List.set_cons_succ, i64_w, i32_w]
              rfl
            refine pure_ (i := 10) (N := some 64) (v := ?_) (a' := ?_) #[true, true, true, true, true, true, true, true, true, true, true, false, false, false, false, false, false, false, false, false, false, false, false, false, false, false, false, false, false, false, false, false, false, false, false, false, false, false, false, false, false, false, false] rfl rfl (any_of HT_.out (by kernel_rfl)) (fun _ _ _ h => h) (Or.inl ⟨by rfl, ?_⟩) ?_ ?_
            rotate_left
            · intro w'
              go_simp
              with_reducible rfl
            rotate_left
            · simp only [Act.put, List.setIfInBounds_toArray, List.set_cons_zero, List.set_cons_succ, i64_w, i32_w]
              rfl
            refine pure_ (i := 11) (N := some 65) (v := ?_) (a' := ?_) #[true, true, true, true, true, true, true, true, true, true, true, true, false, false, false, false, false, false, false, false, false, false, false, false, false, false, false, false, false, false, false, false, false, false, false, false, false, false, false, false, false, false, false] rfl rfl (any_of HT_.out (by kernel_rfl)) (fun _ _ _ h => h) (Or.inl ⟨by rfl, ?_⟩) ?_ ?_
            rotate_left
            · intro w'
              go_simp
              with_reducible rfl
            rotate_left
            · simp only [Act.put, List.setIfInBounds_toArray, List.set_cons_zero, List.set_cons_succ, i64_w, i32_w]
              rfl
            refine take_ (i := 12) (N := some 66) (v := ?_) (a' := ?_) #[true, true, true, true, true, true, true, true, true, true, true, true, true, false, false, false, false, false, false, false, false, false, false, false, false, false, false, false, false, false, false, false, false, false, false, false, false, false, false, false, false, false, false] rfl rfl (take_ofW HT_.out HW_.out (by kernel_rfl)) (fun _ _ _ h => h) (Or.inl ⟨by rfl, ?_⟩) hHeld ?_ ?_
            rotate_left
            · rintro w' ⟨s0, s1, s2, s3, s4, s5, s6, s7, s8, s9, s10, s11, s12, s13, s14⟩
              go_simp
              with_reducible rfl
            rotate_left
            · simp only [Act.put, List.setIfInBounds_toArray, List.set_cons_zero, List.set_cons_succ, i64_w, i32_w]
              rfl
            refine take_ (i := 13) (N := some 67) (v := ?_) (a' := ?_) #[true, true, true, true, true, true, true, true, true, true, true, true, true, true, false, false, false, false, false, false, false, false, false, false, false, false, false, false, false, false, false, false, false, false, false, false, false, false, false, false, false, false, false] rfl rfl (take_ofW HT_.out HW_.out (by kernel_rfl)) (fun _ _ _ h => h) (Or.inl ⟨by rfl, ?_⟩) hHeld ?_ ?_
            rotate_left
            · rintro w' ⟨s0, s1, s2, s3, s4, s5, s6, s7, s8, s9, s10, s11, s12, s13, s14⟩
              go_simp
              with_reducible rfl
            rotate_left
            · simp only [Act.put, List.setIfInBounds_toArray, List.set_cons_zero, List.set_cons_succ, i64_w, i32_w]
              rfl
            refine pure_ (i := 14) (N := some 68) (v := ?_) (a' := ?_) #[true, true, true, true, true, true, true, true, true, true, true, true, true, true, true, false, false, false, false, false, false, false, false, false, false, false, false, false, false, false, false, false, false, false, false, false, false, false, false, false, false, false, false] rfl rfl (any_of HT_.out (by kernel_rfl)) (fun _ _ _ h => h) (Or.inl ⟨by rfl, ?_⟩) ?_ ?_
            rotate_left
            · intro w'
              go_simp
              with_reducible rfl
            rotate_left
            · simp only [Act.put, List.setIfInBounds_toArray, List.set_cons_zero, List.set_cons_succ, i64_w, i32_w]
              rfl
            refine pure_ (i := 15) (N := some 69) (v := ?_) (a' := ?_) #[true, true, true, true, true, true, true, true, true, true, true, true, true, true, true, true, false, false, false, false, false, false, false, false, false, false, false, false, false, false, false, false, false, false, false, false, false, false, false, false, false, false, false] rfl rfl (any_of HT_.out (by kernel_rfl)) (fun _ _ _ h => h) (Or.inl ⟨by rfl, ?_⟩) ?_ ?_
            rotate_left
            · intro w'
              go_simp
              with_reducible rfl
            rotate_left
            · simp only [Act.put, List.setIfInBounds_toArray, List.set_cons_zero, List.set_cons_succ, i64_w, i32_w]
              rfl
            refine pure_ (i := 16) (N := some 70) (v := ?_) (a' := ?_) #[true, true, true, true, true, true, true, true, true, true, true, true, true, true, true, true, true, false, false, false, false, false, false, false, false, false, false, false, false, false, false, false, false, false, false, false, false, false, false, false, false, false, false] rfl rfl (any_of HT_.out (by kernel_rfl)) (fun _ _ _ h => h) (Or.inl ⟨by rfl, ?_⟩) ?_ ?_
            rotate_left
            · intro w'
              go_simp
              with_reducible rfl
            rotate_left
            · simp only [Act.put, List.setIfInBounds_toArray, List.set_cons_zero, List.set_cons_succ, i64_w, i32_w]
              rfl
            refine pure_ (i := 17) (N := some 71) (v := ?_) (a' := ?_) #[true, true, true, true, true, true, true, true, true, true, true, true, true, true, true, true, true, true, false, false, false, false, false, false, false, false, false, false, false, false, false, false, false, false, false, false, false, false, false, false, false, false, false] rfl rfl (any_of HT_.out (by kernel_rfl)) (fun _ _ _ h => h) (Or.inl ⟨by rfl, ?_⟩) ?_ ?_
            rotate_left
            · intro w'
              go_simp
              with_reducible rfl
            rotate_left
            · simp only [Act.put, List.setIfInBounds_toArray, List.set_cons_zero, List.set_cons_succ, i64_w, i32_w]
              rfl
            refine pure_ (i := 18) (N := some 72) (v := ?_) (a' := ?_) #[true, true, true, true, true, true, true, true, true, true, true, true, true, true, true, true, true, true, true, false, false, false, false, false, false, false, false, false, false, false, false, false, false, false, false, false, false, false, false, false, false, false, false] rfl rfl (any_of HT_.out (by kernel_rfl)) (fun _ _ _ h => h) (Or.inl ⟨by rfl, ?_⟩) ?_ ?_
            rotate_left
            · intro w'
              go_simp
              with_reducible rfl
            rotate_left
            · simp only [Act.put, List.setIfInBounds_toArray, List.set_cons_zero, List.set_cons_succ, i64_w, i32_w]
              rfl
            refine pure_ (i := 19) (N := some 73) (v := ?_) (a' := ?_) #[true, true, true, true, true, true, true, true, true, true, true, true, true, true, true, true, true, true, true, true, false, false, false, false, false, false, false, false, false, false, false, false, false, false, false, false, false, false, false, false, false, false, false] rfl rfl (any_of HT_.out (by kernel_rfl)) (fun _ _ _ h => h) (Or.inl ⟨by rfl, ?_⟩) ?_ ?_
            rotate_left
            · intro w'
              go_simp
              with_reducible rfl
            rotate_left
            · simp only [Act.put, List.setIfInBounds_toArray, List.set_cons_zero, List.set_cons_succ, i64_w, i32_w]
              rfl
            refine pure_ (i := 20) (N := some 74) (v := ?_) (a' := ?_) #[true, true, true, true, true, true, true, true, true, true, true, true, true, true, true, true, true, true, true, true, true, false, false, false, false, false, false, false, false, false, false, false, false, false, false, false, false, false, false, false, false, false, false] rfl rfl (any_of HT_.out (by kernel_rfl)) (fun _ _ _ h => h) (Or.inl ⟨by rfl, ?_⟩) ?_ ?_
            rotate_left
            · intro w'
              go_simp
              with_reducible rfl
            rotate_left
            · simp only [Act.put, List.setIfInBounds_toArray, List.set_cons_zero, List.set_cons_succ, i64_w, i32_w]
              rfl
            refine pure_ (i := 21) (N := some 75) (v := ?_) (a' := ?_) #[true, true, true, true, true, true, true, true, true, true, true, true, true, true, true, true, true, true, true, true, true, true, false, false, false, false, false, false, false, false, false, false, false, false, false, false, false, false, false, false, false, false, false] rfl rfl (any_of HT_.out (by kernel_rfl)) (fun _ _ _ h => h) (Or.inl ⟨by rfl, ?_⟩) ?_ ?_
            rotate_left
            · intro w'
              go_simp
              with_reducible rfl
            rotate_left
            · simp only [Act.put, List.setIfInBounds_toArray, List.set_cons_zero, List.set_cons_succ, i64_w, i32_w]
              rfl
            refine pure_ (i := 22) (N := some 76) (v := ?_) (a' := ?_) #[true, true, true, true, true, true, true, true, true, true, true, true, true, true, true, true, true, true, true, true, true, true, true, false, false, false, false, false, false, false, false, false, false, false, false, false, false, false, false, false, false, false, false] rfl rfl (any_of HT_.out (by kernel_rfl)) (fun _ _ _ h => h) (Or.inl ⟨by rfl, ?_⟩) ?_ ?_
            rotate_left
            · intro w'
              go_simp
              with_reducible rfl
            rotate_left
            · simp only [Act.put, List.setIfInBounds_toArray, List.set_cons_zero, List.set_cons_succ, i64_w, i32_w]
              rfl
            refine pure_ (i := 23) (N := some 77) (v := ?_) (a' := ?_) #[true, true, true, true, true, true, true, true, true, true, true, true, true, true, true, true, true, true, true, true, true, true, true, true, false, false, false, false, false, false, false, false, false, false, false, false, false, false, false, false, false, false, false] rfl rfl (any_of HT_.out (by kernel_rfl)) (fun _ _ _ h => h) (Or.inl ⟨by rfl, ?_⟩) ?_ ?_
            rotate_left
            · intro w'
              go_simp
              with_reducible rfl
            rotate_left
            · simp only [Act.put, List.setIfInBounds_toArray, List.set_cons_zero, List.set_cons_succ, i64_w, i32_w]
              rfl
            refine pure_ (i := 24) (N := some 78) (v := ?_) (a' := ?_) #[true, true, true, true, true, true, true, true, true, true, true, true, true, true, true, true, true, true, true, true, true, true, true, true, true, false, false, false, false, false, false, false, false, false, false, false, false, false, false, false, false, false, false] rfl rfl (any_of HT_.out (by kernel_rfl)) (fun _ _ _ h => h) (Or.inl ⟨by rfl, ?_⟩) ?_ ?_
            rotate_left
            · intro w'
              go_simp
              with_reducible rfl
            rotate_left
            · simp only [Act.put, List.setIfInBounds_toArray, List.set_cons_zero, List.set_cons_succ, i64_w, i32_w]
              rfl
            refine pure_ (i := 25) (N := some 79) (v := ?_) (a' := ?_) #[true, true, true, true, true, true, true, true, true, true, true, true, true, true, true, true, true, true, true, true, true, true, true, true, true, true, false, false, false, false, false, false, false, false, false, false, false, false, false, false, false, false, false] rfl rfl (any_of HT_.out (by kernel_rfl)) (fun _ _ _ h => h) (Or.inl ⟨by rfl, ?_⟩) ?_ ?_
            rotate_left
            · intro w'
              go_simp
              with_reducible rfl
            rotate_left
            · simp only [Act.put, List.setIfInBounds_toArray, List.set_cons_zero, List.set_cons_succ, i64_w, i32_w]
              rfl
            refine pure_ (i := 26) (N := some 80) (v := ?_) (a' := ?_) #[true, true, true, true, true, true, true, true, true, true, true, true, true, true, true, true, true, true, true, true, true, true, true, true, true, true, true, false, false, false, false, false, false, false, false, false, false, false, false, false, false, false, false] rfl rfl (any_of HT_.out (by kernel_rfl)) (fun _ _ _ h => h) (Or.inl ⟨by rfl, ?_⟩) ?_ ?_
            rotate_left
            · intro w'
              go_simp
              with_reducible rfl
            rotate_left
            · simp only [Act.put, List.setIfInBounds_toArray, List.set_cons_zero, List.set_cons_succ, i64_w, i32_w]
              rfl
            refine pure_ (i := 27) (N := some 81) (v := ?_) (a' := ?_) #[true, true, true, true, true, true, true, true, true, true, true, true, true, true, true, true, true, true, true, true, true, true, true, true, true, true, true, true, false, false, false, false, false, false, false, false, false, false, false, false, false, false, false] rfl rfl (any_of HT_.out (by kernel_rfl)) (fun _ _ _ h => h) (Or.inl ⟨by rfl, ?_⟩) ?_ ?_
            rotate_left
            · intro w'
              go_simp
              with_reducible rfl
            rotate_left
            · simp only [Act.put, List.setIfInBounds_toArray, List.set_cons_zero, List.set_cons_succ, i64_w, i32_w]
              rfl
            refine pure_ (i := 28) (N := some 82) (v := ?_) (a' := ?_) #[true, true, true, true, true, true, true, true, true, true, true, true, true, true, true, true, true, true, true, true, true, true, true, true, true, true, true, true, true, false, false, false, false, false, false, false, false, false, false, false, false, false, false] rfl rfl (any_of HT_.out (by kernel_rfl)) (fun _ _ _ h => h) (Or.inl ⟨by rfl, ?_⟩) ?_ ?_
            rotate_left
            · intro w'
              go_simp
              with_reducible rfl
            rotate_left
            · simp only [Act.put, List.setIfInBounds_toArray, List.set_cons_zero, List.set_cons_succ, i64_w, i32_w]
              rfl
            refine pure_ (i := 29) (N := some 83) (v := ?_) (a' := ?_) #[true, true, true, true, true, true, true, true, true, true, true, true, true, true, true, true, true, true, true, true, true, true, true, true, true, true, true, true, true, true, false, false, false, false, false, false, false, false, false, false, false, false, false] rfl rfl (any_of HT_.out (by kernel_rfl)) (fun _ _ _ h => h) (Or.inl ⟨by rfl, ?_⟩) ?_ ?_
            rotate_left
            · intro w'
              go_simp
              with_reducible rfl
            rotate_left
            · simp only [Act.put, List.setIfInBounds_toArray, List.set_cons_zero, List.set_cons_succ, i64_w, i32_w]
              rfl
            refine take_ (i := 30) (N := some 84) (v := ?_) (a' := ?_) #[true, true, true, true, true, true, true, true, true, true, true, true, true, true, true, true, true, true, true, true, true, true, true, true, true, true, true, true, true, true, true, false, false, false, false, false, false, false, false, false, false, false, false] rfl rfl (take_ofW HT_.out HW_.out (by kernel_rfl)) (fun _ _ _ h => h) (Or.inl ⟨by rfl, ?_⟩) hHeld ?_ ?_
            rotate_left
            · rintro w' ⟨s0, s1, s2, s3, s4, s5, s6, s7, s8, s9, s10, s11, s12, s13, s14⟩
              go_simp
              with_reducible rfl
            rotate_left
            · simp only [Act.put, List.setIfInBounds_toArray, List.set_cons_zero, List.set_cons_succ, i64_w, i32_w]
              rfl
            refine take_ (i := 31) (N := some 85) (v := ?_) (a' := ?_) #[true, true, true, true, true, true, true, true, true, true, true, true, true, true, true, true, true, true, true, true, true, true, true, true, true, true, true, true, true, true, true, true, false, false, false, false, false, false, false, false, false, false, false] rfl rfl (take_ofW HT_.out HW_.out (by kernel_rfl)) (fun _ _ _ h => h) (Or.inl ⟨by rfl, ?_⟩) hHeld ?_ ?_
            rotate_left
            · rintro w' ⟨s0, s1, s2, s3, s4, s5, s6, s7, s8, s9, s10, s11, s12, s13, s14⟩
              go_simp
              with_reducible rfl
            rotate_left
            · simp only [Act.put, List.setIfInBounds_toArray, List.set_cons_zero, List.set_cons_succ, i64_w, i32_w]
              rfl
            refine take_ (i := 32) (N := some 86) (v := ?_) (a' := ?_) #[true, true, true, true, true, true, true, true, true, true, true, true, true, true, true, true, true, true, true, true, true, true, true, true, true, true, true, true, true, true, true, true, true, false, false, false, false, false, false, false, false, false, false] rfl rfl (take_ofW HT_.out HW_.out (by kernel_rfl)) (fun _ _ _ h => h) (Or.inl ⟨by rfl, ?_⟩) hHeld ?_ ?_
            rotate_left
            · rintro w' ⟨s0, s1, s2, s3, s4, s5, s6, s7, s8, s9, s10, s11, s12, s13, s14⟩
              go_simp
              with_reducible rfl
            rotate_left
            · simp only [Act.put, List.setIfInBounds_toArray, List.set_cons_zero, List.set_cons_succ, i64_w, i32_w]
              rfl
            refine take_ (i := 35) (N := some 89) (v := ?_) (a' := ?_) #[true, true, true, true, true, true, true, true, true, true, true, true, true, true, true, true, true, true, true, true, true, true, true, true, true, true, true, true, true, true, true, true, true, false, false, true, false, false, false, false, false, false, false] rfl rfl (take_ofW HT_.out HW_.out (by kernel_rfl)) (fun _ _ _ h => h) (Or.inl ⟨by rfl, ?_⟩) hHeld ?_ ?_
            rotate_left
            · rintro w' ⟨s0, s1, s2, s3, s4, s5, s6, s7, s8, s9, s10, s11, s12, s13, s14⟩
              go_simp
              with_reducible rfl
            rotate_left
            · simp only [Act.put, List.setIfInBounds_toArray, List.set_cons_zero, List.set_cons_succ, i64_w, i32_w]
              rfl
            refine take_ (i := 36) (N := some 90) (v := ?_) (a' := ?_) #[true, true, true, true, true, true, true, true, true, true, true, true, true, true, true, true, true, true, true, true, true, true, true, true, true, true, true, true, true, true, true, true, true, false, false, true, true, false, false, false, false, false, false] rfl rfl (take_ofW HT_.out HW_.out (by kernel_rfl)) (fun _ _ _ h => h) (Or.inl ⟨by rfl, ?_⟩) hHeld ?_ ?_
            rotate_left
            · rintro w' ⟨s0, s1, s2, s3, s4, s5, s6, s7, s8, s9, s10, s11, s12, s13, s14⟩
              go_simp
              with_reducible rfl
            rotate_left
            · simp only [Act.put, List.setIfInBounds_toArray, List.set_cons_zero, List.set_cons_succ, i64_w, i32_w]
              rfl
            refine take_ (i := 38) (N := some 92) (v := ?_) (a' := ?_) #[true, true, true, true, true, true, true, true, true, true, true, true, true, true, true, true, true, true, true, true, true, true, true, true, true, true, true, true, true, true, true, true, true, false, false, true, true, false, true, false, false, false, false] rfl rfl (take_ofW HT_.out HW_.out (by kernel_rfl)) (fun _ _ _ h => h) (Or.inl ⟨by rfl, ?_⟩) hHeld ?_ ?_
            rotate_left
            · rintro w' ⟨s0, s1, s2, s3, s4, s5, s6, s7, s8, s9, s10, s11, s12, s13, s14⟩
              go_simp
              with_reducible rfl
            rotate_left
            · simp only [Act.put, List.setIfInBounds_toArray, List.set_cons_zero, List.set_cons_succ, i64_w, i32_w]
              rfl
            refine one_ (i := 33) (N := some 87) #[true, true, true, true, true, true, true, true, true, true, true, true, true, true, true, true, true, true, true, true, true, true, true, true, true, true, true, true, true, true, true, true, true, true, false, true, true, false, true, false, false, false, false] rfl rfl (one_of HT_.out (by kernel_rfl)) (by decide) (fun K hK => ?_)
            refine goes_ Tryd.func15 (by kernel_rfl) rfl #[.agg #[.int .u64 t483, .int .u64 t484, .int .u64 t485, .int .u64 t486, .int .i64 t487], .agg #[.int .u64 t489, .int .u64 t490, .int .u64 t491, .int .u64 t492, .int .i64 t493]] (by rfl) rfl rfl (by (try simp only [List.map_toArray, List.map_cons, List.map_nil]); first | done | rfl | (simp only [List.length_drop, List.length_take]; rfl)) ?_
            with_reducible refine (stamp_Later.calls kj80 t483 t484 t485 t486 t487 t489 t490 t491 t492 t493 t540 t541 t542 t543 t544 _ A143.out).mono ?_
            rintro e w150 ⟨rfl, hb⟩
            refine ⟨_, rfl, ?_⟩
            replace BK473 := Kb_ BK473 hb
            replace BK474 := Kb_ BK474 hb
            replace BK475 := Kb_ BK475 hb
            replace BK482 := Kb_ BK482 hb
            replace BK488 := Kb_ BK488 hb
            replace BK494 := Kb_ BK494 hb
            replace HB := Ks_ HB hb
            (try clear hb)
            (try clear hb2)
            (try clear hk)
            (try clear hi)
            refine hK.out _ _ ⟨(blk_cell BK488.out 0).trans rfl, (blk_cell BK488.out 1).trans rfl, (blk_cell BK488.out 2).trans rfl, (blk_cell BK488.out 3).trans rfl, (blk_cell BK488.out 4).trans rfl, (blk_cell BK482.out 0).trans rfl, (blk_cell BK482.out 1).trans rfl, (blk_cell BK482.out 2).trans rfl, (blk_cell BK482.out 3).trans rfl, (blk_cell BK482.out 4).trans rfl, (blk_cell BK494.out 0).trans rfl, (blk_cell BK494.out 1).trans rfl, (blk_cell BK494.out 2).trans rfl, (blk_cell BK494.out 3).trans rfl, (blk_cell BK494.out 4).trans rfl⟩ (fun hHeld => ?_)
            clear hK K
            refine norm_ (a' := ?_) ?_ ?_
            rotate_left
            · show Act.put _ (some 87) _ = _
              simp only [Act.put, List.setIfInBounds_toArray, List.set_cons_zero, List.set_cons_succ, i64_w, i32_w]
              rfl
            refine one_ (i := 34) (N := some 88) #[true, true, true, true, true, true, true, true, true, true, true, true, true, true, true, true, true, true, true, true, true, true, true, true, true, true, true, true, true, true, true, true, true, true, true, true, true, false, true, false, false, false, false] rfl rfl (one_of HT_.out (by kernel_rfl)) (by decide) (fun K hK => ?_)
            refine goes_ Tryd.func15 (by kernel_rfl) rfl #[.agg #[.int .u64 t477, .int .u64 t478, .int .u64 t479, .int .u64 t480, .int .i64 t481], .agg #[.int .u64 t540, .int .u64 t541, .int .u64 t542, .int .u64 t543, .int .i64 t544]] (by rfl) rfl rfl (by (try simp only [List.map_toArray, List.map_cons, List.map_nil]); first | done | rfl | (simp only [List.length_drop, List.length_take]; rfl)) ?_
            with_reducible refine (stamp_Later.calls kj80 t477 t478 t479 t480 t481 t540 t541 t542 t543 t544 t545 t546 t547 t548 t549 _ A144.out).mono ?_
            rintro e w151 ⟨rfl, hb⟩
            refine ⟨_, rfl, ?_⟩
            replace BK473 := Kb_ BK473 hb
            replace BK474 := Kb_ BK474 hb
            replace BK475 := Kb_ BK475 hb
            replace BK482 := Kb_ BK482 hb
            replace BK488 := Kb_ BK488 hb
            replace BK494 := Kb_ BK494 hb
            replace HB := Ks_ HB hb
            (try clear hb)
            (try clear hb2)
            (try clear hk)
            (try clear hi)
            refine hK.out _ _ ⟨(blk_cell BK488.out 0).trans rfl, (blk_cell BK488.out 1).trans rfl, (blk_cell BK488.out 2).trans rfl, (blk_cell BK488.out 3).trans rfl, (blk_cell BK488.out 4).trans rfl, (blk_cell BK482.out 0).trans rfl, (blk_cell BK482.out 1).trans rfl, (blk_cell BK482.out 2).trans rfl, (blk_cell BK482.out 3).trans rfl, (blk_cell BK482.out 4).trans rfl, (blk_cell BK494.out 0).trans rfl, (blk_cell BK494.out 1).trans rfl, (blk_cell BK494.out 2).trans rfl, (blk_cell BK494.out 3).trans rfl, (blk_cell BK494.out 4).trans rfl⟩ (fun hHeld => ?_)
            clear hK K
            refine norm_ (a' := ?_) ?_ ?_
            rotate_left
            · show Act.put _ (some 88) _ = _
              simp only [Act.put, List.setIfInBounds_toArray, List.set_cons_zero, List.set_cons_succ, i64_w, i32_w]
              rfl
            refine one_ (i := 37) (N := some 91) #[true, true, true, true, true, true, true, true, true, true, true, true, true, true, true, true, true, true, true, true, true, true, true, true, true, true, true, true, true, true, true, true, true, true, true, true, true, true, true, false, false, false, false] rfl rfl (one_of HT_.out (by kernel_rfl)) (by decide) (fun K hK => ?_)
            refine goes_ Tryd.func15 (by kernel_rfl) rfl #[.agg #[.int .u64 t489, .int .u64 t490, .int .u64 t491, .int .u64 t492, .int .i64 t493], .agg #[.int .u64 t477, .int .u64 t478, .int .u64 t479, .int .u64 t480, .int .i64 t481]] (by rfl) rfl rfl (by (try simp only [List.map_toArray, List.map_cons, List.map_nil]); first | done | rfl | (simp only [List.length_drop, List.length_take]; rfl)) ?_
            with_reducible refine (stamp_Later.calls kj80 t489 t490 t491 t492 t493 t477 t478 t479 t480 t481 t550 t551 t552 t553 t554 _ A145.out).mono ?_
            rintro e w152 ⟨rfl, hb⟩
            refine ⟨_, rfl, ?_⟩
            replace BK473 := Kb_ BK473 hb
            replace BK474 := Kb_ BK474 hb
            replace BK475 := Kb_ BK475 hb
            replace BK482 := Kb_ BK482 hb
            replace BK488 := Kb_ BK488 hb
            replace BK494 := Kb_ BK494 hb
            replace HB := Ks_ HB hb
            (try clear hb)
            (try clear hb2)
            (try clear hk)
            (try clear hi)
            refine hK.out _ _ ⟨(blk_cell BK488.out 0).trans rfl, (blk_cell BK488.out 1).trans rfl, (blk_cell BK488.out 2).trans rfl, (blk_cell BK488.out 3).trans rfl, (blk_cell BK488.out 4).trans rfl, (blk_cell BK482.out 0).trans rfl, (blk_cell BK482.out 1).trans rfl, (blk_cell BK482.out 2).trans rfl, (blk_cell BK482.out 3).trans rfl, (blk_cell BK482.out 4).trans rfl, (blk_cell BK494.out 0).trans rfl, (blk_cell BK494.out 1).trans rfl, (blk_cell BK494.out 2).trans rfl, (blk_cell BK494.out 3).trans rfl, (blk_cell BK494.out 4).trans rfl⟩ (fun hHeld => ?_)
            clear hK K
            refine norm_ (a' := ?_) ?_ ?_
            rotate_left
            · show Act.put _ (some 91) _ = _
              simp only [Act.put, List.setIfInBounds_toArray, List.set_cons_zero, List.set_cons_succ, i64_w, i32_w]
              rfl
            refine one_ (i := 39) (N := some 93) #[true, true, true, true, true, true, true, true, true, true, true, true, true, true, true, true, true, true, true, true, true, true, true, true, true, true, true, true, true, true, true, true, true, true, true, true, true, true, true, true, false, false, false] rfl rfl (one_of HT_.out (by kernel_rfl)) (by decide) (fun K hK => ?_)
            refine goes_ Tryd.func15 (by kernel_rfl) rfl #[.agg #[.int .u64 t550, .int .u64 t551, .int .u64 t552, .int .u64 t553, .int .i64 t554], .agg #[.int .u64 t483, .int .u64 t484, .int .u64 t485, .int .u64 t486, .int .i64 t487]] (by rfl) rfl rfl (by (try simp only [List.map_toArray, List.map_cons, List.map_nil]); first | done | rfl | (simp only [List.length_drop, List.length_take]; rfl)) ?_
            with_reducible refine (stamp_Later.calls kj80 t550 t551 t552 t553 t554 t483 t484 t485 t486 t487 t555 t556 t557 t558 t559 _ A146.out).mono ?_
            rintro e w153 ⟨rfl, hb⟩
            refine ⟨_, rfl, ?_⟩
            replace BK473 := Kb_ BK473 hb
            replace BK474 := Kb_ BK474 hb
            replace BK475 := Kb_ BK475 hb
            replace BK482 := Kb_ BK482 hb
            replace BK488 := Kb_ BK488 hb
            replace BK494 := Kb_ BK494 hb
            replace HB := Ks_ HB hb
            (try clear hb)
            (try clear hb2)
            (try clear hk)
            (try clear hi)
            refine hK.out _ _ ⟨(blk_cell BK488.out 0).trans rfl, (blk_cell BK488.out 1).trans rfl, (blk_cell BK488.out 2).trans rfl, (blk_cell BK488.out 3).trans rfl, (blk_cell BK488.out 4).trans rfl, (blk_cell BK482.out 0).trans rfl, (blk_cell BK482.out 1).trans rfl, (blk_cell BK482.out 2).trans rfl, (blk_cell BK482.out 3).trans rfl, (blk_cell BK482.out 4).trans rfl, (blk_cell BK494.out 0).trans rfl, (blk_cell BK494.out 1).trans rfl, (blk_cell BK494.out 2).trans rfl, (blk_cell BK494.out 3).trans rfl, (blk_cell BK494.out 4).trans rfl⟩ (fun hHeld => ?_)
            clear hK K
            refine norm_ (a' := ?_) ?_ ?_
            rotate_left
            · show Act.put _ (some 93) _ = _
              simp only [Act.put, List.setIfInBounds_toArray, List.set_cons_zero, List.set_cons_succ, i64_w, i32_w]
              rfl
            refine pure_ (i := 40) (N := some 94) (v := ?_) (a' := ?_) #[true, true, true, true, true, true, true, true, true, true, true, true, true, true, true, true, true, true, true, true, true, true, true, true, true, true, true, true, true, true, true, true, true, true, true, true, true, true, true, true, true, false, false] rfl rfl (any_of HT_.out (by kernel_rfl)) (fun _ _ _ h => h) (Or.inl ⟨by rfl, ?_⟩) ?_ ?_
            rotate_left
            · intro w'
              go_simp
              with_reducible rfl
            rotate_left
            · simp only [Act.put, List.setIfInBounds_toArray, List.set_cons_zero, List.set_cons_succ, i64_w, i32_w]
              rfl
            refine pure_ (i := 41) (N := some 95) (v := ?_) (a' := ?_) #[true, true, true, true, true, true, true, true, true, true, true, true, true, true, true, true, true, true, true, true, true, true, true, true, true, true, true, true, true, true, true, true, true, true, true, true, true, true, true, true, true, true, false] rfl rfl (any_of HT_.out (by kernel_rfl)) (fun _ _ _ h => h) (Or.inl ⟨by rfl, ?_⟩) ?_ ?_
            rotate_left
            · intro w'
              go_simp
              with_reducible rfl
            rotate_left
            · simp only [Act.put, List.setIfInBounds_toArray, List.set_cons_zero, List.set_cons_succ, i64_w, i32_w]
              rfl
            refine pure_ (i := 42) (N := some 6) (v := ?_) (a' := ?_) #[true, true, true, true, true, true, true, true, true, true, true, true, true, true, true, true, true, true, true, true, true, true, true, true, true, true, true, true, true, true, true, true, true, true, true, true, true, true, true, true, true, true, true] rfl rfl (any_of HT_.out (by kernel_rfl)) (fun _ _ _ h => h) (Or.inl ⟨by rfl, ?_⟩) ?_ ?_
            rotate_left
            · intro w'
              go_simp
              with_reducible rfl
            rotate_left
            · simp only [Act.put, List.setIfInBounds_toArray, List.set_cons_zero, List.set_cons_succ, i64_w, i32_w]
              rfl
            refine done_ (done_of HT_.out (by kernel_rfl)) ?_
            try go_wp2
            go_ret
            exact ⟨by first | rfl | (simp [errW_none, errW_some] <;> rfl) | (simp [*, errW_none, errW_some] <;> rfl), by repeat (first | (with_reducible first | exact HB.out | apply below_alloc | apply pw_below_drewN | apply below_drew1 | refine below_set ?_ GE473.out | refine below_set ?_ GE474.out | refine below_set ?_ GE475.out | refine below_set ?_ GE482.out | refine below_set ?_ GE488.out | refine below_set ?_ GE494.out) | exact HB.out)⟩
          rw [if_pos c112] at H
          have c112b0 : (t495 == 0) = true := beq_iff_eq.mpr c112
          have c112b1 : (t495 != 0) = false := bne_eq_false_iff_eq.mpr c112
          clear c112
          by_cases c113 : ((t477 == t483 && (t478 == t484 && (t479 == t485 && (t480 == t486)))) && (t481 == t487)) = true
          rotate_left
          · rw [if_neg c113] at H
            exact absurd H (by simp)
          rw [if_pos c113] at H
          have c113b0 : ((t477 == t483 && (t478 == t484 && (t479 == t485 && (t480 == t486)))) && (t481 == t487)) = true := c113
          clear c113
          by_cases c114 : x12_9 = true
          · subst c114
            have H1 : (none) = some r := by rw [if_pos rfl] at H; exact H
            clear H
            have H := H1
            clear H1
            exact absurd H (by simp)
          replace c114 := Bool.eq_false_iff.mpr c114
          subst c114
          have H1 : (if x13_80 = true then (if t495 < 0 then ((stamp_Later.f kj80 t483 t484 t485 t486 t487 t489 t490 t491 t492 t493).bind fun bt500 => ((stamp_Later.f kj80 t477 t478 t479 t480 t481 bt500.1 bt500.2.1 bt500.2.2.1 bt500.2.2.2.1 bt500.2.2.2.2).bind fun bt505 => ((stamp_Later.f kj80 t489 t490 t491 t492 t493 t477 t478 t479 t480 t481).bind fun bt510 => ((stamp_Later.f kj80 bt510.1 bt510.2.1 bt510.2.2.1 bt510.2.2.2.1 bt510.2.2.2.2 t483 t484 t485 t486 t487).bind fun bt515 => (if ((bt505.1 == bt515.1 && (bt505.2.1 == bt515.2.1 && (bt505.2.2.1 == bt515.2.2.1 && (bt505.2.2.2.1 == bt515.2.2.2.1)))) && (bt505.2.2.2.2 == bt515.2.2.2.2)) = true then (some true) else (none)))))) else (none)) else ((stamp_Later.f kj80 t483 t484 t485 t486 t487 t489 t490 t491 t492 t493).bind fun bt520 => ((stamp_Later.f kj80 t477 t478 t479 t480 t481 bt520.1 bt520.2.1 bt520.2.2.1 bt520.2.2.2.1 bt520.2.2.2.2).bind fun bt525 => ((stamp_Later.f kj80 t489 t490 t491 t492 t493 t477 t478 t479 t480 t481).bind fun bt530 => ((stamp_Later.f kj80 bt530.1 bt530.2.1 bt530.2.2.1 bt530.2.2.2.1 bt530.2.2.2.2 t483 t484 t485 t486 t487).bind fun bt535 => (if ((bt525.1 == bt535.1 && (bt525.2.1 == bt535.2.1 && (bt525.2.2.1 == bt535.2.2.1 && (bt525.2.2.2.1 == bt535.2.2.2.1)))) && (bt525.2.2.2.2 == bt535.2.2.2.2)) = true then (some true) else (none))))))) = some r := by rw [if_neg (show ¬ (false = true) by decide)] at H; exact H
          clear H
          have H := H1
          clear H1
          by_cases c115 : x13_80 = true
          rotate_left
          · replace c115 := Bool.eq_false_iff.mpr c115
            subst c115
            have H1 : ((stamp_Later.f kj80 t483 t484 t485 t486 t487 t489 t490 t491 t492 t493).bind fun bt520 => ((stamp_Later.f kj80 t477 t478 t479 t480 t481 bt520.1 bt520.2.1 bt520.2.2.1 bt520.2.2.2.1 bt520.2.2.2.2).bind fun bt525 => ((stamp_Later.f kj80 t489 t490 t491 t492 t493 t477 t478 t479 t480 t481).bind fun bt530 => ((stamp_Later.f kj80 bt530.1 bt530.2.1 bt530.2.2.1 bt530.2.2.2.1 bt530.2.2.2.2 t483 t484 t485 t486 t487).bind fun bt535 => (if ((bt525.1 == bt535.1 && (bt525.2.1 == bt535.2.1 && (bt525.2.2.1 == bt535.2.2.1 && (bt525.2.2.2.1 == bt535.2.2.2.1)))) && (bt525.2.2.2.2 == bt535.2.2.2.2)) = true then (some true) else (none)))))) = some r := by rw [if_neg (show ¬ (false = true) by decide)] at H; exact H
            clear H
            have H := H1
            clear H1
            replace H := Option.bind_eq_some_iff.mp H
            obtain ⟨⟨t520, t521, t522, t523, t524⟩, A1280, H⟩ := H
            replace H : ((stamp_Later.f kj80 t477 t478 t479 t480 t481 t520 t521 t522 t523 t524).bind fun bt525 => ((stamp_Later.f kj80 t489 t490 t491 t492 t493 t477 t478 t479 t480 t481).bind fun bt530 => ((stamp_Later.f kj80 bt530.1 bt530.2.1 bt530.2.2.1 bt530.2.2.2.1 bt530.2.2.2.2 t483 t484 t485 t486 t487).bind fun bt535 => (if ((bt525.1 == bt535.1 && (bt525.2.1 == bt535.2.1 && (bt525.2.2.1 == bt535.2.2.1 && (bt525.2.2.2.1 == bt535.2.2.2.1)))) && (bt525.2.2.2.2 == bt535.2.2.2.2)) = true then (some true) else (none))))) = some r := H
            have A128 := Aside0.mk A1280
            clear A1280
            replace H := Option.bind_eq_some_iff.mp H
            obtain ⟨⟨t525, t526, t527, t528, t529⟩, A1290, H⟩ := H
            replace H : ((stamp_Later.f kj80 t489 t490 t491 t492 t493 t477 t478 t479 t480 t481).bind fun bt530 => ((stamp_Later.f kj80 bt530.1 bt530.2.1 bt530.2.2.1 bt530.2.2.2.1 bt530.2.2.2.2 t483 t484 t485 t486 t487).bind fun bt535 => (if ((t525 == bt535.1 && (t526 == bt535.2.1 && (t527 == bt535.2.2.1 && (t528 == bt535.2.2.2.1)))) && (t529 == bt535.2.2.2.2)) = true then (some true) else (none)))) = some r := H
            have A129 := Aside0.mk A1290
            clear A1290
            replace H := Option.bind_eq_some_iff.mp H
            obtain ⟨⟨t530, t531, t532, t533, t534⟩, A1300, H⟩ := H
            replace H : ((stamp_Later.f kj80 t530 t531 t532 t533 t534 t483 t484 t485 t486 t487).bind fun bt535 => (if ((t525 == bt535.1 && (t526 == bt535.2.1 && (t527 == bt535.2.2.1 && (t528 == bt535.2.2.2.1)))) && (t529 == bt535.2.2.2.2)) = true then (some true) else (none))) = some r := H
            have A130 := Aside0.mk A1300
            clear A1300
            replace H := Option.bind_eq_some_iff.mp H
            obtain ⟨⟨t535, t536, t537, t538, t539⟩, A1310, H⟩ := H
            replace H : (if ((t525 == t535 && (t526 == t536 && (t527 == t537 && (t528 == t538)))) && (t529 == t539)) = true then (some true) else (none)) = some r := H
            have A131 := Aside0.mk A1310
            clear A1310
            by_cases c132 : ((t525 == t535 && (t526 == t536 && (t527 == t537 && (t528 == t538)))) && (t529 == t539)) = true
            rotate_left
            · rw [if_neg c132] at H
              exact absurd H (by simp)
            rw [if_pos c132] at H
            have c132b0 : ((t525 == t535 && (t526 == t536 && (t527 == t537 && (t528 == t538)))) && (t529 == t539)) = true := c132
            clear c132
            obtain rfl := Option.some.inj H
            try go_wp2
            replace BK473 := Kd_ BK473
            replace BK474 := Kd_ BK474
            replace BK475 := Kd_ BK475
            replace BK482 := Kd_ BK482
            replace BK488 := Kd_ BK488
            replace BK494 := Kd_ BK494
            replace HB := Aside0.mk (below_drew1 HB.out)
            refine start_ (n := 43) (S := fun w' => w'.cell? ⟨gb488, 0, none⟩ = some (.int .u64 t483) ∧ w'.cell? ⟨gb488, 1, none⟩ = some (.int .u64 t484) ∧ w'.cell? ⟨gb488, 2, none⟩ = some (.int .u64 t485) ∧ w'.cell? ⟨gb488, 3, none⟩ = some (.int .u64 t486) ∧ w'.cell? ⟨gb488, 4, none⟩ = some (.int .i64 t487) ∧ w'.cell? ⟨gb482, 0, none⟩ = some (.int .u64 t477) ∧ w'.cell? ⟨gb482, 1, none⟩ = some (.int .u64 t478) ∧ w'.cell? ⟨gb482, 2, none⟩ = some (.int .u64 t479) ∧ w'.cell? ⟨gb482, 3, none⟩ = some (.int .u64 t480) ∧ w'.cell? ⟨gb482, 4, none⟩ = some (.int .i64 t481) ∧ w'.cell? ⟨gb494, 0, none⟩ = some (.int .u64 t489) ∧ w'.cell? ⟨gb494, 1, none⟩ = some (.int .u64 t490) ∧ w'.cell? ⟨gb494, 2, none⟩ = some (.int .u64 t491) ∧ w'.cell? ⟨gb494, 3, none⟩ = some (.int .u64 t492) ∧ w'.cell? ⟨gb494, 4, none⟩ = some (.int .i64 t493)) (ds := []) #[false, false, false, false, false, false, false, false, false, false, false, false, false, false, false, false, false, false, false, false, false, false, false, false, false, false, false, false, false, false, false, false, false, false, false, false, false, false, false, false, false, false, false] (by kernel_rfl) rfl rfl ⟨(blk_cell BK488.out 0).trans rfl, (blk_cell BK488.out 1).trans rfl, (blk_cell BK488.out 2).trans rfl, (blk_cell BK488.out 3).trans rfl, (blk_cell BK488.out 4).trans rfl, (blk_cell BK482.out 0).trans rfl, (blk_cell BK482.out 1).trans rfl, (blk_cell BK482.out 2).trans rfl, (blk_cell BK482.out 3).trans rfl, (blk_cell BK482.out 4).trans rfl, (blk_cell BK494.out 0).trans rfl, (blk_cell BK494.out 1).trans rfl, (blk_cell BK494.out 2).trans rfl, (blk_cell BK494.out 3).trans rfl, (blk_cell BK494.out 4).trans rfl⟩ (fun hHeld => ?_); refine with_tabW tenementlaw07_StampOrder.tab13 tenementlaw07_StampOrder.bits13 (fun HT_ HW_ => ?_)
            generalize wc.drew = w133 at BK473 BK474 BK475 BK482 BK488 BK494 HB hHeld ⊢
            refine pure_ (i := 0) (N := some 54) (v := ?_) (a' := ?_) #[true, false, false, false, false, false, false, false, false, false, false, false, false, false, false, false, false, false, false, false, false, false, false, false, false, false, false, false, false, false, false, false, false, false, false, false, false, false, false, false, false, false, false] rfl rfl (any_of HT_.out (by kernel_rfl)) (fun _ _ _ h => h) (Or.inl ⟨by rfl, ?_⟩) ?_ ?_
            rotate_left
            · intro w'
              go_simp
              with_reducible rfl
            rotate_left
            · simp only [Act.put, List.setIfInBounds_toArray, List.set_cons_zero, List.set_cons_succ, i64_w, i32_w]
              rfl
            refine pure_ (i := 1) (N := some 55) (v := ?_) (a' := ?_) #[true, true, false, false, false, false, false, false, false, false, false, false, false, false, false, false, false, false, false, false, false, false, false, false, false, false, false, false, false, false, false, false, false, false, false, false, false, false, false, false, false, false, false] rfl rfl (any_of HT_.out (by kernel_rfl)) (fun _ _ _ h => h) (Or.inl ⟨by rfl, ?_⟩) ?_ ?_
            rotate_left
            · intro w'
              go_simp
              with_reducible rfl
            rotate_left
            · simp only [Act.put, List.setIfInBounds_toArray, List.set_cons_zero, List.set_cons_succ, i64_w, i32_w]
              rfl
            refine pure_ (i := 2) (N := some 56) (v := ?_) (a' := ?_) #[true, true, true, false, false, false, false, false, false, false, false, false, false, false, false, false, false, false, false, false, false, false, false, false, false, false, false, false, false, false, false, false, false, false, false, false, false, false, false, false, false, false, false] rfl rfl (any_of HT_.out (by kernel_rfl)) (fun _ _ _ h => h) (Or.inl ⟨by rfl, ?_⟩) ?_ ?_
            rotate_left
            · intro w'
              go_simp
              with_reducible rfl
            rotate_left
            · simp only [Act.put, List.setIfInBounds_toArray, List.set_cons_zero, List.set_cons_succ, i64_w, i32_w]
              rfl
            refine take_ (i := 3) (N := some 57) (v := ?_) (a' := ?_) #[true, true, true, true, false, false, false, false, false, false, false, false, false, false, false, false, false, false, false, false, false, false, false, false, false, false, false, false, false, false, false, false, false, false, false, false, false, false, false, false, false, false, false] rfl rfl (take_ofW HT_.out HW_.out (by kernel_rfl)) (fun _ _ _ h => h) (Or.inl ⟨by rfl, ?_⟩) hHeld ?_ ?_
            rotate_left
            · rintro w' ⟨s0, s1, s2, s3, s4, s5, s6, s7, s8, s9, s10, s11, s12, s13, s14⟩
              go_simp
              with_reducible rfl
            rotate_left
            · simp only [Act.put, List.setIfInBounds_toArray, List.set_cons_zero, List.set_cons_succ, i64_w, i32_w]
              rfl
            refine take_ (i := 4) (N := some 58) (v := ?_) (a' := ?_) #[true, true, true, true, true, false, false, false, false, false, false, false, false, false, false, false, false, false, false, false, false, false, false, false, false, false, false, false, false, false, false, false, false, false, false, false, false, false, false, false, false, false, false] rfl rfl (take_ofW HT_.out HW_.out (by kernel_rfl)) (fun _ _ _ h => h) (Or.inl ⟨by rfl, ?_⟩) hHeld ?_ ?_
            rotate_left
            · rintro w' ⟨s0, s1, s2, s3, s4, s5, s6, s7, s8, s9, s10, s11, s12, s13, s14⟩
              go_simp
              with_reducible rfl
            rotate_left
            · simp only [Act.put, List.setIfInBounds_toArray, List.set_cons_zero, List.set_cons_succ, i64_w, i32_w]
              rfl
            refine one_ (i := 5) (N := some 59) #[true, true, true, true, true, true, false, false, false, false, false, false, false, false, false, false, false, false, false, false, false, false, false, false, false, false, false, false, false, false, false, false, false, false, false, false, false, false, false, false, false, false, false] rfl rfl (one_of HT_.out (by kernel_rfl)) (by decide) (fun K hK => ?_)
            refine goes_ Tryd.func21 (by kernel_rfl) rfl #[.agg #[.int .u64 t483, .int .u64 t484, .int .u64 t485, .int .u64 t486, .int .i64 t487], .agg #[.int .u64 t477, .int .u64 t478, .int .u64 t479, .int .u64 t480, .int .i64 t481]] (by rfl) rfl rfl (by (try simp only [List.map_toArray, List.map_cons, List.map_nil]); first | done | rfl | (simp only [List.length_drop, List.length_take]; rfl)) ?_
            with_reducible refine (stamp_Order.calls kj80 t483 t484 t485 t486 t487 t477 t478 t479 t480 t481 t499 _ A110.out).mono ?_
            rintro e w134 ⟨rfl, hb⟩
            refine ⟨_, rfl, ?_⟩
            replace BK473 := Kb_ BK473 hb
            replace BK474 := Kb_ BK474 hb
            replace BK475 := Kb_ BK475 hb
            replace BK482 := Kb_ BK482 hb
            replace BK488 := Kb_ BK488 hb
            replace BK494 := Kb_ BK494 hb
            replace HB := Ks_ HB hb
            (try clear hb)
            (try clear hb2)
            (try clear hk)
            (try clear hi)
            refine hK.out _ _ ⟨(blk_cell BK488.out 0).trans rfl, (blk_cell BK488.out 1).trans rfl, (blk_cell BK488.out 2).trans rfl, (blk_cell BK488.out 3).trans rfl, (blk_cell BK488.out 4).trans rfl, (blk_cell BK482.out 0).trans rfl, (blk_cell BK482.out 1).trans rfl, (blk_cell BK482.out 2).trans rfl, (blk_cell BK482.out 3).trans rfl, (blk_cell BK482.out 4).trans rfl, (blk_cell BK494.out 0).trans rfl, (blk_cell BK494.out 1).trans rfl, (blk_cell BK494.out 2).trans rfl, (blk_cell BK494.out 3).trans rfl, (blk_cell BK494.out 4).trans rfl⟩ (fun hHeld => ?_)
            clear hK K
            refine norm_ (a' := ?_) ?_ ?_
            rotate_left
            · show Act.put _ (some 59) _ = _
              simp only [Act.put, List.setIfInBounds_toArray, List.set_cons_zero, List.set_cons_succ, i64_w, i32_w]
              rfl
            refine pure_ (i := 6) (N := some 60) (v := ?_) (a' := ?_) #[true, true, true, true, true, true, true, false, false, false, false, false, false, false, false, false, false, false, false, false, false, false, false, false, false, false, false, false, false, false, false, false, false, false, false, false, false, false, false, false, false, false, false] rfl rfl (any_of HT_.out (by kernel_rfl)) (fun _ _ _ h => h) (Or.inl ⟨by rfl, ?_⟩) ?_ ?_
            rotate_left
            · intro w'
              go_simp
              with_reducible rfl
            rotate_left
            · simp only [Act.put, List.setIfInBounds_toArray, List.set_cons_zero, List.set_cons_succ, i64_w, i32_w]
              rfl
            refine pure_ (i := 7) (N := some 61) (v := ?_) (a' := ?_) #[true, true, true, true, true, true, true, true, false, false, false, false, false, false, false, false, false, false, false, false, false, false, false, false, false, false, false, false, false, false, false, false, false, false, false, false, false, false, false, false, false, false, false] rfl rfl (any_of HT_.out (by kernel_rfl)) (fun _ _ _ h => h) (Or.inl ⟨by rfl, ?_⟩) ?_ ?_
            rotate_left
            · intro w'
              go_simp
              with_reducible rfl
            rotate_left
            · simp only [Act.put, List.setIfInBounds_toArray, List.set_cons_zero, List.set_cons_succ, i64_w, i32_w]
              rfl
            refine pure_ (i := 8) (N := some 62) (v := ?_) (a' := ?_) #[true, true, true, true, true, true, true, true, true, false, false, false, false, false, false, false, false, false, false, false, false, false, false, false, false, false, false, false, false, false, false, false, false, false, false, false, false, false, false, false, false, false, false] rfl rfl (any_of HT_.out (by kernel_rfl)) (fun _ _ _ h => h) (Or.inl ⟨by rfl, ?_⟩) ?_ ?_
            rotate_left
            · intro w'
              go_simp
              with_reducible rfl
            rotate_left
            · simp only [Act.put, List.setIfInBounds_toArray, List.set_cons_zero, List.set_cons_succ, i64_w, i32_w]
              rfl
            refine pure_ (i := 9) (N := some 63) (v := ?_) (a' := ?_) #[true, true, true, true, true, true, true, true, true, true, false, false, false, false, false, false, false, false, false, false, false, false, false, false, false, false, false, false, false, false, false, false, false, false, false, false, false, false, false, false, false, false, false] rfl rfl (any_of HT_.out (by kernel_rfl)) (fun _ _ _ h => h) (Or.inl ⟨by rfl, ?_⟩) ?_ ?_
            rotate_left
            · intro w'
              go_simp
              with_reducible rfl
            rotate_left
            · simp only [Act.put, List.setIfInBounds_toArray, List.set_cons_zero, List.set_cons_succ, i64_w, i32_w]
              rfl
            refine pure_ (i := 10) (N := some 64) (v := ?_) (a' := ?_) #[true, true, true, true, true, true, true, true, true, true, true, false, false, false, false, false, false, false, false, false, false, false, false, false, false, false, false, false, false, false, false, false, false, false, false, false, false, false, false, false, false, false, false] rfl rfl (any_of HT_.out (by kernel_rfl)) (fun _ _ _ h => h) (Or.inl ⟨by rfl, ?_⟩) ?_ ?_
            rotate_left
            · intro w'
              go_simp
              with_reducible rfl
            rotate_left
            · simp only [Act.put, List.setIfInBounds_toArray, List.set_cons_zero, List.set_cons_succ, i64_w, i32_w]
              rfl
            refine pure_ (i := 11) (N := some 65) (v := ?_) (a' := ?_) #[true, true, true, true, true, true, true, true, true, true, true, true, false, false, false, false, false, false, false, false, false, false, false, false, false, false, false, false, false, false, false, false, false, false, false, false, false, false, false, false, false, false, false] rfl rfl (any_of HT_.out (by kernel_rfl)) (fun _ _ _ h => h) (Or.inl ⟨by rfl, ?_⟩) ?_ ?_
            rotate_left
            · intro w'
              go_simp
              with_reducible rfl
            rotate_left
            · simp only [Act.put, List.setIfInBounds_toArray, List.set_cons_zero, List.set_cons_succ, i64_w, i32_w]
              rfl
            refine take_ (i := 12) (N := some 66) (v := ?_) (a' := ?_) #[true, true, true, true, true, true, true, true, true, true, true, true, true, false, false, false, false, false, false, false, false, false, false, false, false, false, false, false, false, false, false, false, false, false, false, false, false, false, false, false, false, false, false] rfl rfl (take_ofW HT_.out HW_.out (by kernel_rfl)) (fun _ _ _ h => h) (Or.inl ⟨by rfl, ?_⟩) hHeld ?_ ?_
            rotate_left
            · rintro w' ⟨s0, s1, s2, s3, s4, s5, s6, s7, s8, s9, s10, s11, s12, s13, s14⟩
              go_simp
              with_reducible rfl
            rotate_left
            · simp only [Act.put, List.setIfInBounds_toArray, List.set_cons_zero, List.set_cons_succ, i64_w, i32_w]
              rfl
            refine take_ (i := 13) (N := some 67) (v := ?_) (a' := ?_) #[true, true, true, true, true, true, true, true, true, true, true, true, true, true, false, false, false, false, false, false, false, false, false, false, false, false, false, false, false, false, false, false, false, false, false, false, false, false, false, false, false, false, false] rfl rfl (take_ofW HT_.out HW_.out (by kernel_rfl)) (fun _ _ _ h => h) (Or.inl ⟨by rfl, ?_⟩) hHeld ?_ ?_
            rotate_left
            · rintro w' ⟨s0, s1, s2, s3, s4, s5, s6, s7, s8, s9, s10, s11, s12, s13, s14⟩
              go_simp
              with_reducible rfl
            rotate_left
            · simp only [Act.put, List.setIfInBounds_toArray, List.set_cons_zero, List.set_cons_succ, i64_w, i32_w]
              rfl
            refine pure_ (i := 14) (N := some 68) (v := ?_) (a' := ?_) #[true, true, true, true, true, true, true, true, true, true, true, true, true, true, true, false, false, false, false, false, false, false, false, false, false, false, false, false, false, false, false, false, false, false, false, false, false, false, false, false, false, false, false] rfl rfl (any_of HT_.out (by kernel_rfl)) (fun _ _ _ h => h) (Or.inl ⟨by rfl, ?_⟩) ?_ ?_
            rotate_left
            · intro w'
              go_simp
              with_reducible rfl
            rotate_left
            · simp only [Act.put, List.setIfInBounds_toArray, List.set_cons_zero, List.set_cons_succ, i64_w, i32_w]
              rfl
            refine pure_ (i := 15) (N := some 69) (v := ?_) (a' := ?_) #[true, true, true, true, true, true, true, true, true, true, true, true, true, true, true, true, false, false, false, false, false, false, false, false, false, false, false, false, false, false, false, false, false, false, false, false, false, false, false, false, false, false, false] rfl rfl (any_of HT_.out (by kernel_rfl)) (fun _ _ _ h => h) (Or.inl ⟨by rfl, ?_⟩) ?_ ?_
            rotate_left
            · intro w'
              go_simp
              with_reducible rfl
            rotate_left
            · simp only [Act.put, List.setIfInBounds_toArray, List.set_cons_zero, List.set_cons_succ, i64_w, i32_w]
              rfl
            refine pure_ (i := 16) (N := some 70) (v := ?_) (a' := ?_) #[true, true, true, true, true, true, true, true, true, true, true, true, true, true, true, true, true, false, false, false, false, false, false, false, false, false, false, false, false, false, false, false, false, false, false, false, false, false, false, false, false, false, false] rfl rfl (any_of HT_.out (by kernel_rfl)) (fun _ _ _ h => h) (Or.inl ⟨by rfl, ?_⟩) ?_ ?_
            rotate_left
            · intro w'
              go_simp
              with_reducible rfl
            rotate_left
            · simp only [Act.put, List.setIfInBounds_toArray, List.set_cons_zero, List.set_cons_succ, i64_w, i32_w]
              rfl
            refine pure_ (i := 17) (N := some 71) (v := ?_) (a' := ?_) #[true, true, true, true, true, true, true, true, true, true, true, true, true, true, true, true, true, true, false, false, false, false, false, false, false, false, false, false, false, false, false, false, false, false, false, false, false, false, false, false, false, false, false] rfl rfl (any_of HT_.out (by kernel_rfl)) (fun _ _ _ h => h) (Or.inl ⟨by rfl, ?_⟩) ?_ ?_
            rotate_left
            · intro w'
              go_simp
              with_reducible rfl
            rotate_left
            · simp only [Act.put, List.setIfInBounds_toArray, List.set_cons_zero, List.set_cons_succ, i64_w, i32_w]
              rfl
            refine pure_ (i := 18) (N := some 72) (v := ?_) (a' := ?_) #[true, true, true, true, true, true, true, true, true, true, true, true, true, true, true, true, true, true, true, false, false, false, false, false, false, false, false, false, false, false, false, false, false, false, false, false, false, false, false, false, false, false, false] rfl rfl (any_of HT_.out (by kernel_rfl)) (fun _ _ _ h => h) (Or.inl ⟨by rfl, ?_⟩) ?_ ?_
            rotate_left
            · intro w'
              go_simp
              with_reducible rfl
            rotate_left
            · simp only [Act.put, List.setIfInBounds_toArray, List.set_cons_zero, List.set_cons_succ, i64_w, i32_w]
              rfl
            refine pure_ (i := 19) (N := some 73) (v := ?_) (a' := ?_) #[true, true, true, true, true, true, true, true, true, true, true, true, true, true, true, true, true, true, true, true, false, false, false, false, false, false, false, false, false, false, false, false, false, false, false, false, false, false, false, false, false, false, false] rfl rfl (any_of HT_.out (by kernel_rfl)) (fun _ _ _ h => h) (Or.inl ⟨by rfl, ?_⟩) ?_ ?_
            rotate_left
            · intro w'
              go_simp
              with_reducible rfl
            rotate_left
            · simp only [Act.put, List.setIfInBounds_toArray, List.set_cons_zero, List.set_cons_succ, i64_w, i32_w]
              rfl
            refine pure_ (i := 20) (N := some 74) (v := ?_) (a' := ?_) #[true, true, true, true, true, true, true, true, true, true, true, true, true, true, true, true, true, true, true, true, true, false, false, false, false, false, false, false, false, false, false, false, false, false, false, false, false, false, false, false, false, false, false] rfl rfl (any_of HT_.out (by kernel_rfl)) (fun _ _ _ h => h) (Or.inl ⟨by rfl, ?_⟩) ?_ ?_
            rotate_left
            · intro w'
              go_simp
              with_reducible rfl
            rotate_left
            · simp only [Act.put, List.setIfInBounds_toArray, List.set_cons_zero, List.set_cons_succ, i64_w, i32_w]
              rfl
            refine pure_ (i := 21) (N := some 75) (v := ?_) (a' := ?_) #[true, true, true, true, true, true, true, true, true, true, true, true, true, true, true, true, true, true, true, true, true, true, false, false, false, false, false, false, false, false, false, false, false, false, false, false, false, false, false, false, false, false, false] rfl rfl (any_of HT_.out (by kernel_rfl)) (fun _ _ _ h => h) (Or.inl ⟨by rfl, ?_⟩) ?_ ?_
            rotate_left
            · intro w'
              go_simp
              with_reducible rfl
            rotate_left
            · simp only [Act.put, List.setIfInBounds_toArray, List.set_cons_zero, List.set_cons_succ, i64_w, i32_w]
              rfl
            refine pure_ (i := 22) (N := some 76) (v := ?_) (a' := ?_) #[true, true, true, true, true, true, true, true, true, true, true, true, true, true, true, true, true, true, true, true, true, true, true, false, false, false, false, false, false, false, false, false, false, false, false, false, false, false, false, false, false, false, false] rfl rfl (any_of HT_.out (by kernel_rfl)) (fun _ _ _ h => h) (Or.inl ⟨by rfl, ?_⟩) ?_ ?_
            rotate_left
            · intro w'
              go_simp
              with_reducible rfl
            rotate_left
            · simp only [Act.put, List.setIfInBounds_toArray, List.set_cons_zero, List.set_cons_succ, i64_w, i32_w]
              rfl
            refine pure_ (i := 23) (N := some 77) (v := ?_) (a' := ?_) #[true, true, true, true, true, true, true, true, true, true, true, true, true, true, true, true, true, true, true, true, true, true, true, true, false, false, false, false, false, false, false, false, false, false, false, false, false, false, false, false, false, false, false] rfl rfl (any_of HT_.out (by kernel_rfl)) (fun _ _ _ h => h) (Or.inl ⟨by rfl, ?_⟩) ?_ ?_
            rotate_left
            · intro w'
              go_simp
              with_reducible rfl
            rotate_left
            · simp only [Act.put, List.setIfInBounds_toArray, List.set_cons_zero, List.set_cons_succ, i64_w, i32_w]
              rfl
            refine pure_ (i := 24) (N := some 78) (v := ?_) (a' := ?_) #[true, true, true, true, true, true, true, true, true, true, true, true, true, true, true, true, true, true, true, true, true, true, true, true, true, false, false, false, false, false, false, false, false, false, false, false, false, false, false, false, false, false, false] rfl rfl (any_of HT_.out (by kernel_rfl)) (fun _ _ _ h => h) (Or.inl ⟨by rfl, ?_⟩) ?_ ?_
            rotate_left
            · intro w'
              go_simp
              with_reducible rfl
            rotate_left
            · simp only [Act.put, List.setIfInBounds_toArray, List.set_cons_zero, List.set_cons_succ, i64_w, i32_w]
              rfl
            refine pure_ (i := 25) (N := some 79) (v := undef) (a' := ?_) #[true, true, true, true, true, true, true, true, true, true, true, true, true, true, true, true, true, true, true, true, true, true, true, true, true, true, false, false, false, false, false, false, false, false, false, false, false, false, false, false, false, false, false] rfl rfl (any_of HT_.out (by kernel_rfl)) (fun _ _ _ h => h) (Or.inr ⟨by rfl, rfl⟩) ?_ ?_
            rotate_left
            · simp only [Act.put, List.setIfInBounds_toArray, List.set_cons_zero, List.set_cons_succ, i64_w, i32_w]
              rfl
            refine pure_ (i := 26) (N := some 80) (v := undef) (a' := ?_) #[true, true, true, true, true, true, true, true, true, true, true, true, true, true, true, true, true, true, true, true, true, true, true, true, true, true, true, false, false, false, false, false, false, false, false, false, false, false, false, false, false, false, false] rfl rfl (any_of HT_.out (by kernel_rfl)) (fun _ _ _ h => h) (Or.inr ⟨by rfl, rfl⟩) ?_ ?_
            rotate_left
            · simp only [Act.put, List.setIfInBounds_toArray, List.set_cons_zero, List.set_cons_succ, i64_w, i32_w]
              rfl
            refine pure_ (i := 27) (N := some 81) (v := ?_) (a' := ?_) #[true, true, true, true, true, true, true, true, true, true, true, true, true, true, true, true, true, true, true, true, true, true, true, true, true, true, true, true, false, false, false, false, false, false, false, false, false, false, false, false, false, false, false] rfl rfl (any_of HT_.out (by kernel_rfl)) (fun _ _ _ h => h) (Or.inl ⟨by rfl, ?_⟩) ?_ ?_
            rotate_left
            · intro w'
              go_simp
              with_reducible rfl
            rotate_left
            · simp only [Act.put, List.setIfInBounds_toArray, List.set_cons_zero, List.set_cons_succ, i64_w, i32_w]
              rfl
            refine pure_ (i := 28) (N := some 82) (v := ?_) (a' := ?_) #[true, true, true, true, true, true, true, true, true, true, true, true, true, true, true, true, true, true, true, true, true, true, true, true, true, true, true, true, true, false, false, false, false, false, false, false, false, false, false, false, false, false, false] rfl rfl (any_of HT_.out (by kernel_rfl)) (fun _ _ _ h => h) (Or.inl ⟨by rfl, ?_⟩) ?_ ?_
            rotate_left
            · intro w'
              go_simp
              with_reducible rfl
            rotate_left
            · simp only [Act.put, List.setIfInBounds_toArray, List.set_cons_zero, List.set_cons_succ, i64_w, i32_w]
              rfl
            refine pure_ (i := 29) (N := some 83) (v := ?_) (a' := ?_) #[true, true, true, true, true, true, true, true, true, true, true, true, true, true, true, true, true, true, true, true, true, true, true, true, true, true, true, true, true, true, false, false, false, false, false, false, false, false, false, false, false, false, false] rfl rfl (any_of HT_.out (by kernel_rfl)) (fun _ _ _ h => h) (Or.inl ⟨by rfl, ?_⟩) ?_ ?_
            rotate_left
            · intro w'
              go_simp
              with_reducible rfl
            rotate_left
            · simp only [Act.put, List.setIfInBounds_toArray, List.set_cons_zero, List.set_cons_succ, i64_w, i32_w]
              rfl
            refine take_ (i := 30) (N := some 84) (v := ?_) (a' := ?_) #[true, true, true, true, true, true, true, true, true, true, true, true, true, true, true, true, true, true, true, true, true, true, true, true, true, true, true, true, true, true, true, false, false, false, false, false, false, false, false, false, false, false, false] rfl rfl (take_ofW HT_.out HW_.out (by kernel_rfl)) (fun _ _ _ h => h) (Or.inl ⟨by rfl, ?_⟩) hHeld ?_ ?_
            rotate_left
            · rintro w' ⟨s0, s1, s2, s3, s4, s5, s6, s7, s8, s9, s10, s11, s12, s13, s14⟩
              go_simp
              with_reducible rfl
            rotate_left
            · simp only [Act.put, List.setIfInBounds_toArray, List.set_cons_zero, List.set_cons_succ, i64_w, i32_w]
              rfl
            refine take_ (i := 31) (N := some 85) (v := ?_) (a' := ?_) #[true, true, true, true, true, true, true, true, true, true, true, true, true, true, true, true, true, true, true, true, true, true, true, true, true, true, true, true, true, true, true, true, false, false, false, false, false, false, false, false, false, false, false] rfl rfl (take_ofW HT_.out HW_.out (by kernel_rfl)) (fun _ _ _ h => h) (Or.inl ⟨by rfl, ?_⟩) hHeld ?_ ?_
            rotate_left
            · rintro w' ⟨s0, s1, s2, s3, s4, s5, s6, s7, s8, s9, s10, s11, s12, s13, s14⟩
              go_simp
              with_reducible rfl
            rotate_left
            · simp only [Act.put, List.setIfInBounds_toArray, List.set_cons_zero, List.set_cons_succ, i64_w, i32_w]
              rfl
            refine take_ (i := 32) (N := some 86) (v := ?_) (a' := ?_) #[true, true, true, true, true, true, true, true, true, true, true, true, true, true, true, true, true, true, true, true, true, true, true, true, true, true, true, true, true, true, true, true, true, false, false, false, false, false, false, false, false, false, false] rfl rfl (take_ofW HT_.out HW_.out (by kernel_rfl)) (fun _ _ _ h => h) (Or.inl ⟨by rfl, ?_⟩) hHeld ?_ ?_
            rotate_left
            · rintro w' ⟨s0, s1, s2, s3, s4, s5, s6, s7, s8, s9, s10, s11, s12, s13, s14⟩
              go_simp
              with_reducible rfl
            rotate_left
            · simp only [Act.put, List.setIfInBounds_toArray, List.set_cons_zero, List.set_cons_succ, i64_w, i32_w]
              rfl
            refine take_ (i := 35) (N := some 89) (v := ?_) (a' := ?_) #[true, true, true, true, true, true, true, true, true, true, true, true, true, true, true, true, true, true, true, true, true, true, true, true, true, true, true, true, true, true, true, true, true, false, false, true, false, false, false, false, false, false, false] rfl rfl (take_ofW HT_.out HW_.out (by kernel_rfl)) (fun _ _ _ h => h) (Or.inl ⟨by rfl, ?_⟩) hHeld ?_ ?_
            rotate_left
            · rintro w' ⟨s0, s1, s2, s3, s4, s5, s6, s7, s8, s9, s10, s11, s12, s13, s14⟩
              go_simp
              with_reducible rfl
            rotate_left
            · simp only [Act.put, List.setIfInBounds_toArray, List.set_cons_zero, List.set_cons_succ, i64_w, i32_w]
              rfl
            refine take_ (i := 36) (N := some 90) (v := ?_) (a' := ?_) #[true, true, true, true, true, true, true, true, true, true, true, true, true, true, true, true, true, true, true, true, true, true, true, true, true, true, true, true, true, true, true, true, true, false, false, true, true, false, false, false, false, false, false] rfl rfl (take_ofW HT_.out HW_.out (by kernel_rfl)) (fun _ _ _ h => h) (Or.inl ⟨by rfl, ?_⟩) hHeld ?_ ?_
            rotate_left
            · rintro w' ⟨s0, s1, s2, s3, s4, s5, s6, s7, s8, s9, s10, s11, s12, s13, s14⟩
              go_simp
              with_reducible rfl
            rotate_left
            · simp only [Act.put, List.setIfInBounds_toArray, List.set_cons_zero, List.set_cons_succ, i64_w, i32_w]
              rfl
            refine take_ (i := 38) (N := some 92) (v := ?_) (a' := ?_) #[true, true, true, true, true, true, true, true, true, true, true, true, true, true, true, true, true, true, true, true, true, true, true, true, true, true, true, true, true, true, true, true, true, false, false, true, true, false, true, false, false, false, false] rfl rfl (take_ofW HT_.out HW_.out (by kernel_rfl)) (fun _ _ _ h => h) (Or.inl ⟨by rfl, ?_⟩) hHeld ?_ ?_
            rotate_left
            · rintro w' ⟨s0, s1, s2, s3, s4, s5, s6, s7, s8, s9, s10, s11, s12, s13, s14⟩
              go_simp
              with_reducible rfl
            rotate_left
            · simp only [Act.put, List.setIfInBounds_toArray, List.set_cons_zero, List.set_cons_succ, i64_w, i32_w]
              rfl
            refine one_ (i := 33) (N := some 87) #[true, true, true, true, true, true, true, true, true, true, true, true, true, true, true, true, true, true, true, true, true, true, true, true, true, true, true, true, true, true, true, true, true, true, false, true, true, false, true, false, false, false, false] rfl rfl (one_of HT_.out (by kernel_rfl)) (by decide) (fun K hK => ?_)
            refine goes_ Tryd.func15 (by kernel_rfl) rfl #[.agg #[.int .u64 t483, .int .u64 t484, .int .u64 t485, .int .u64 t486, .int .i64 t487], .agg #[.int .u64 t489, .int .u64 t490, .int .u64 t491, .int .u64 t492, .int .i64 t493]] (by rfl) rfl rfl (by (try simp only [List.map_toArray, List.map_cons, List.map_nil]); first | done | rfl | (simp only [List.length_drop, List.length_take]; rfl)) ?_
            with_reducible refine (stamp_Later.calls kj80 t483 t484 t485 t486 t487 t489 t490 t491 t492 t493 t520 t521 t522 t523 t524 _ A128.out).mono ?_
            rintro e w135 ⟨rfl, hb⟩
            refine ⟨_, rfl, ?_⟩
            replace BK473 := Kb_ BK473 hb
            replace BK474 := Kb_ BK474 hb
            replace BK475 := Kb_ BK475 hb
            replace BK482 := Kb_ BK482 hb
            replace BK488 := Kb_ BK488 hb
            replace BK494 := Kb_ BK494 hb
            replace HB := Ks_ HB hb
            (try clear hb)
            (try clear hb2)
            (try clear hk)
            (try clear hi)
            refine hK.out _ _ ⟨(blk_cell BK488.out 0).trans rfl, (blk_cell BK488.out 1).trans rfl, (blk_cell BK488.out 2).trans rfl, (blk_cell BK488.out 3).trans rfl, (blk_cell BK488.out 4).trans rfl, (blk_cell BK482.out 0).trans rfl, (blk_cell BK482.out 1).trans rfl, (blk_cell BK482.out 2).trans rfl, (blk_cell BK482.out 3).trans rfl, (blk_cell BK482.out 4).trans rfl, (blk_cell BK494.out 0).trans rfl, (blk_cell BK494.out 1).trans rfl, (blk_cell BK494.out 2).trans rfl, (blk_cell BK494.out 3).trans rfl, (blk_cell BK494.out 4).trans rfl⟩ (fun hHeld => ?_)
            clear hK K
            refine norm_ (a' := ?_) ?_ ?_
            rotate_left
            · show Act.put _ (some 87) _ = _
              simp only [Act.put, List.setIfInBounds_toArray, List.set_cons_zero, List.set_cons_succ, i64_w, i32_w]
              rfl
            refine one_ (i := 34) (N := some 88) #[true, true, true, true, true, true, true, true, true, true, true, true, true, true, true, true, true, true, true, true, true, true, true, true, true, true, true, true, true, true, true, true, true, true, true, true, true, false, true, false, false, false, false] rfl rfl (one_of HT_.out (by kernel_rfl)) (by decide) (fun K hK => ?_)
            refine goes_ Tryd.func15 (by kernel_rfl) rfl #[.agg #[.int .u64 t477, .int .u64 t478, .int .u64 t479, .int .u64 t480, .int .i64 t481], .agg #[.int .u64 t520, .int .u64 t521, .int .u64 t522, .int .u64 t523, .int .i64 t524]] (by rfl) rfl rfl (by (try simp only [List.map_toArray, List.map_cons, List.map_nil]); first | done | rfl | (simp only [List.length_drop, List.length_take]; rfl)) ?_
            with_reducible refine (stamp_Later.calls kj80 t477 t478 t479 t480 t481 t520 t521 t522 t523 t524 t525 t526 t527 t528 t529 _ A129.out).mono ?_
            rintro e w136 ⟨rfl, hb⟩
            refine ⟨_, rfl, ?_⟩
            replace BK473 := Kb_ BK473 hb
            replace BK474 := Kb_ BK474 hb
            replace BK475 := Kb_ BK475 hb
            replace BK482 := Kb_ BK482 hb
            replace BK488 := Kb_ BK488 hb
            replace BK494 := Kb_ BK494 hb
            replace HB := Ks_ HB hb
            (try clear hb)
            (try clear hb2)
            (try clear hk)
            (try clear hi)
            refine hK.out _ _ ⟨(blk_cell BK488.out 0).trans rfl, (blk_cell BK488.out 1).trans rfl, (blk_cell BK488.out 2).trans rfl, (blk_cell BK488.out 3).trans rfl, (blk_cell BK488.out 4).trans rfl, (blk_cell BK482.out 0).trans rfl, (blk_cell BK482.out 1).trans rfl, (blk_cell BK482.out 2).trans rfl, (blk_cell BK482.out 3).trans rfl, (blk_cell BK482.out 4).trans rfl, (blk_cell BK494.out 0).trans rfl, (blk_cell BK494.out 1).trans rfl, (blk_cell BK494.out 2).trans rfl, (blk_cell BK494.out 3).trans rfl, (blk_cell BK494.out 4).trans rfl⟩ (fun hHeld => ?_)
            clear hK K
            refine norm_ (a' := ?_) ?_ ?_
            rotate_left
            · show Act.put _ (some 88) _ = _
              simp only [Act.put, List.setIfInBounds_toArray, List.set_cons_zero, List.set_cons_succ, i64_w, i32_w]
              rfl
            refine one_ (i := 37) (N := some 91) #[true, true, true, true, true, true, true, true, true, true, true, true, true, true, true, true, true, true, true, true, true, true, true, true, true, true, true, true, true, true, true, true, true, true, true, true, true, true, true, false, false, false, false] rfl rfl (one_of HT_.out (by kernel_rfl)) (by decide) (fun K hK => ?_)
            refine goes_ Tryd.func15 (by kernel_rfl) rfl #[.agg #[.int .u64 t489, .int .u64 t490, .int .u64 t491, .int .u64 t492, .int .i64 t493], .agg #[.int .u64 t477, .int .u64 t478, .int .u64 t479, .int .u64 t480, .int .i64 t481]] (by rfl) rfl rfl (by (try simp only [List.map_toArray, List.map_cons, List.map_nil]); first | done | rfl | (simp only [List.length_drop, List.length_take]; rfl)) ?_
            with_reducible refine (stamp_Later.calls kj80 t489 t490 t491 t492 t493 t477 t478 t479 t480 t481 t530 t531 t532 t533 t534 _ A130.out).mono ?_
            rintro e w137 ⟨rfl, hb⟩
            refine ⟨_, rfl, ?_⟩
            replace BK473 := Kb_ BK473 hb
            replace BK474 := Kb_ BK474 hb
            replace BK475 := Kb_ BK475 hb
            replace BK482 := Kb_ BK482 hb
            replace BK488 := Kb_ BK488 hb
            replace BK494 := Kb_ BK494 hb
            replace HB := Ks_ HB hb
            (try clear hb)
            (try clear hb2)
            (try clear hk)
            (try clear hi)
            refine hK.out _ _ ⟨(blk_cell BK488.out 0).trans rfl, (blk_cell BK488.out 1).trans rfl, (blk_cell BK488.out 2).trans rfl, (blk_cell BK488.out 3).trans rfl, (blk_cell BK488.out 4).trans rfl, (blk_cell BK482.out 0).trans rfl, (blk_cell BK482.out 1).trans rfl, (blk_cell BK482.out 2).trans rfl, (blk_cell BK482.out 3).trans rfl, (blk_cell BK482.out 4).trans rfl, (blk_cell BK494.out 0).trans rfl, (blk_cell BK494.out 1).trans rfl, (blk_cell BK494.out 2).trans rfl, (blk_cell BK494.out 3).trans rfl, (blk_cell BK494.out 4).trans rfl⟩ (fun hHeld => ?_)
            clear hK K
            refine norm_ (a' := ?_) ?_ ?_
            rotate_left
            · show Act.put _ (some 91) _ = _
              simp only [Act.put, List.setIfInBounds_toArray, List.set_cons_zero, List.set_cons_succ, i64_w, i32_w]
              rfl
            refine one_ (i := 39) (N := some 93) #[true, true, true, true, true, true, true, true, true, true, true, true, true, true, true, true, true, true, true, true, true, true, true, true, true, true, true, true, true, true, true, true, true, true, true, true, true, true, true, true, false, false, false] rfl rfl (one_of HT_.out (by kernel_rfl)) (by decide) (fun K hK => ?_)
            refine goes_ Tryd.func15 (by kernel_rfl) rfl #[.agg #[.int .u64 t530, .int .u64 t531, .int .u64 t532, .int .u64 t533, .int .i64 t534], .agg #[.int .u64 t483, .int .u64 t484, .int .u64 t485, .int .u64 t486, .int .i64 t487]] (by rfl) rfl rfl (by (try simp only [List.map_toArray, List.map_cons, List.map_nil]); first | done | rfl | (simp only [List.length_drop, List.length_take]; rfl)) ?_
            with_reducible refine (stamp_Later.calls kj80 t530 t531 t532 t533 t534 t483 t484 t485 t486 t487 t535 t536 t537 t538 t539 _ A131.out).mono ?_
            rintro e w138 ⟨rfl, hb⟩
            refine ⟨_, rfl, ?_⟩
            replace BK473 := Kb_ BK473 hb
            replace BK474 := Kb_ BK474 hb
            replace BK475 := Kb_ BK475 hb
            replace BK482 := Kb_ BK482 hb
            replace BK488 := Kb_ BK488 hb
            replace BK494 := Kb_ BK494 hb
            replace HB := Ks_ HB hb
            (try clear hb)
            (try clear hb2)
            (try clear hk)
            (try clear hi)
            refine hK.out _ _ ⟨(blk_cell BK488.out 0).trans rfl, (blk_cell BK488.out 1).trans rfl, (blk_cell BK488.out 2).trans rfl, (blk_cell BK488.out 3).trans rfl, (blk_cell BK488.out 4).trans rfl, (blk_cell BK482.out 0).trans rfl, (blk_cell BK482.out 1).trans rfl, (blk_cell BK482.out 2).trans rfl, (blk_cell BK482.out 3).trans rfl, (blk_cell BK482.out 4).trans rfl, (blk_cell BK494.out 0).trans rfl, (blk_cell BK494.out 1).trans rfl, (blk_cell BK494.out 2).trans rfl, (blk_cell BK494.out 3).trans rfl, (blk_cell BK494.out 4).trans rfl⟩ (fun hHeld => ?_)
            clear hK K
            refine norm_ (a' := ?_) ?_ ?_
            rotate_left
            · show Act.put _ (some 93) _ = _
              simp only [Act.put, List.setIfInBounds_toArray, List.set_cons_zero, List.set_cons_succ, i64_w, i32_w]
              rfl
            refine pure_ (i := 40) (N := some 94) (v := ?_) (a' := ?_) #[true, true, true, true, true, true, true, true, true, true, true, true, true, true, true, true, true, true, true, true, true, true, true, true, true, true, true, true, true, true, true, true, true, true, true, true, true, true, true, true, true, false, false] rfl rfl (any_of HT_.out (by kernel_rfl)) (fun _ _ _ h => h) (Or.inl ⟨by rfl, ?_⟩) ?_ ?_
            rotate_left
            · intro w'
              go_simp
              with_reducible rfl
            rotate_left
            · simp only [Act.put, List.setIfInBounds_toArray, List.set_cons_zero, List.set_cons_succ, i64_w, i32_w]
              rfl
            refine pure_ (i := 41) (N := some 95) (v := ?_) (a' := ?_) #[true, true, true, true, true, true, true, true, true, true, true, true, true, true, true, true, true, true, true, true, true, true, true, true, true, true, true, true, true, true, true, true, true, true, true, true, true, true, true, true, true, true, false] rfl rfl (any_of HT_.out (by kernel_rfl)) (fun _ _ _ h => h) (Or.inl ⟨by rfl, ?_⟩) ?_ ?_
            rotate_left
            · intro w'
              go_simp
              with_reducible rfl
            rotate_left
            · simp only [Act.put, List.setIfInBounds_toArray, List.set_cons_zero, List.set_cons_succ, i64_w, i32_w]
              rfl
            refine pure_ (i := 42) (N := some 6) (v := ?_) (a' := ?_) #[true, true, true, true, true, true, true, true, true, true, true, true, true, true, true, true, true, true, true, true, true, true, true, true, true, true, true, true, true, true, true, true, true, true, true, true, true, true, true, true, true, true, true] rfl rfl (any_of HT_.out (by kernel_rfl)) (fun _ _ _ h => h) (Or.inl ⟨by rfl, ?_⟩) ?_ ?_
            rotate_left
            · intro w'
              go_simp
              with_reducible rfl
            rotate_left
            · simp only [Act.put, List.setIfInBounds_toArray, List.set_cons_zero, List.set_cons_succ, i64_w, i32_w]
              rfl
            refine done_ (done_of HT_.out (by kernel_rfl)) ?_
            try go_wp2
            go_ret
            exact ⟨by first | rfl | (simp [errW_none, errW_some] <;> rfl) | (simp [*, errW_none, errW_some] <;> rfl), by repeat (first | (with_reducible first | exact HB.out | apply below_alloc | apply pw_below_drewN | apply below_drew1 | refine below_set ?_ GE473.out | refine below_set ?_ GE474.out | refine below_set ?_ GE475.out | refine below_set ?_ GE482.out | refine below_set ?_ GE488.out | refine below_set ?_ GE494.out) | exact HB.out)⟩
          subst c115
          have H1 : (if t495 < 0 then ((stamp_Later.f kj80 t483 t484 t485 t486 t487 t489 t490 t491 t492 t493).bind fun bt500 => ((stamp_Later.f kj80 t477 t478 t479 t480 t481 bt500.1 bt500.2.1 bt500.2.2.1 bt500.2.2.2.1 bt500.2.2.2.2).bind fun bt505 => ((stamp_Later.f kj80 t489 t490 t491 t492 t493 t477 t478 t479 t480 t481).bind fun bt510 => ((stamp_Later.f kj80 bt510.1 bt510.2.1 bt510.2.2.1 bt510.2.2.2.1 bt510.2.2.2.2 t483 t484 t485 t486 t487).bind fun bt515 => (if ((bt505.1 == bt515.1 && (bt505.2.1 == bt515.2.1 && (bt505.2.2.1 == bt515.2.2.1 && (bt505.2.2.2.1 == bt515.2.2.2.1)))) && (bt505.2.2.2.2 == bt515.2.2.2.2)) = true then (some true) else (none)))))) else (none)) = some r := by rw [if_pos rfl] at H; exact H
          clear H
          have H := H1
          clear H1
          by_cases c116 : t495 < 0
          rotate_left
          · rw [if_neg c116] at H
            exact absurd H (by simp)
          rw [if_pos c116] at H
          have c116b0 : decide (t495 < 0) = true := decide_eq_true c116
          clear c116
          replace H := Option.bind_eq_some_iff.mp H
          obtain ⟨⟨t500, t501, t502, t503, t504⟩, A1170, H⟩ := H
          replace H : ((stamp_Later.f kj80 t477 t478 t479 t480 t481 t500 t501 t502 t503 t504).bind fun bt505 => ((stamp_Later.f kj80 t489 t490 t491 t492 t493 t477 t478 t479 t480 t481).bind fun bt510 => ((stamp_Later.f kj80 bt510.1 bt510.2.1 bt510.2.2.1 bt510.2.2.2.1 bt510.2.2.2.2 t483 t484 t485 t486 t487).bind fun bt515 => (if ((bt505.1 == bt515.1 && (bt505.2.1 == bt515.2.1 && (bt505.2.2.1 == bt515.2.2.1 && (bt505.2.2.2.1 == bt515.2.2.2.1)))) && (bt505.2.2.2.2 == bt515.2.2.2.2)) = true then (some true) else (none))))) = some r := H
          have A117 := Aside0.mk A1170
          clear A1170
          replace H := Option.bind_eq_some_iff.mp H
          obtain ⟨⟨t505, t506, t507, t508, t509⟩, A1180, H⟩ := H
          replace H : ((stamp_Later.f kj80 t489 t490 t491 t492 t493 t477 t478 t479 t480 t481).bind fun bt510 => ((stamp_Later.f kj80 bt510.1 bt510.2.1 bt510.2.2.1 bt510.2.2.2.1 bt510.2.2.2.2 t483 t484 t485 t486 t487).bind fun bt515 => (if ((t505 == bt515.1 && (t506 == bt515.2.1 && (t507 == bt515.2.2.1 && (t508 == bt515.2.2.2.1)))) && (t509 == bt515.2.2.2.2)) = true then (some true) else (none)))) = some r := H
          have A118 := Aside0.mk A1180
          clear A1180
          replace H := Option.bind_eq_some_iff.mp H
          obtain ⟨⟨t510, t511, t512, t513, t514⟩, A1190, H⟩ := H
          replace H : ((stamp_Later.f kj80 t510 t511 t512 t513 t514 t483 t484 t485 t486 t487).bind fun bt515 => (if ((t505 == bt515.1 && (t506 == bt515.2.1 && (t507 == bt515.2.2.1 && (t508 == bt515.2.2.2.1)))) && (t509 == bt515.2.2.2.2)) = true then (some true) else (none))) = some r := H
          have A119 := Aside0.mk A1190
          clear A1190
          replace H := Option.bind_eq_some_iff.mp H
          obtain ⟨⟨t515, t516, t517, t518, t519⟩, A1200, H⟩ := H
          replace H : (if ((t505 == t515 && (t506 == t516 && (t507 == t517 && (t508 == t518)))) && (t509 == t519)) = true then (some true) else (none)) = some r := H
          have A120 := Aside0.mk A1200
          clear A1200
          by_cases c121 : ((t505 == t515 && (t506 == t516 && (t507 == t517 && (t508 == t518)))) && (t509 == t519)) = true
          rotate_left
          · rw [if_neg c121] at H
            exact absurd H (by simp)
          rw [if_pos c121] at H
          have c121b0 : ((t505 == t515 && (t506 == t516 && (t507 == t517 && (t508 == t518)))) && (t509 == t519)) = true := c121
          clear c121
          obtain rfl := Option.some.inj H
          try go_wp2
          replace BK473 := Kd_ BK473
          replace BK474 := Kd_ BK474
          replace BK475 := Kd_ BK475
          replace BK482 := Kd_ BK482
          replace BK488 := Kd_ BK488
          replace BK494 := Kd_ BK494
          replace HB := Aside0.mk (below_drew1 HB.out)
          refine start_ (n := 43) (S := fun w' => w'.cell? ⟨gb488, 0, none⟩ = some (.int .u64 t483) ∧ w'.cell? ⟨gb488, 1, none⟩ = some (.int .u64 t484) ∧ w'.cell? ⟨gb488, 2, none⟩ = some (.int .u64 t485) ∧ w'.cell? ⟨gb488, 3, none⟩ = some (.int .u64 t486) ∧ w'.cell? ⟨gb488, 4, none⟩ = some (.int .i64 t487) ∧ w'.cell? ⟨gb482, 0, none⟩ = some (.int .u64 t477) ∧ w'.cell? ⟨gb482, 1, none⟩ = some (.int .u64 t478) ∧ w'.cell? ⟨gb482, 2, none⟩ = some (.int .u64 t479) ∧ w'.cell? ⟨gb482, 3, none⟩ = some (.int .u64 t480) ∧ w'.cell? ⟨gb482, 4, none⟩ = some (.int .i64 t481) ∧ w'.cell? ⟨gb494, 0, none⟩ = some (.int .u64 t489) ∧ w'.cell? ⟨gb494, 1, none⟩ = some (.int .u64 t490) ∧ w'.cell? ⟨gb494, 2, none⟩ = some (.int .u64 t491) ∧ w'.cell? ⟨gb494, 3, none⟩ = some (.int .u64 t492) ∧ w'.cell? ⟨gb494, 4, none⟩ = some (.int .i64 t493)) (ds := []) #[false, false, false, false, false, false, false, false, false, false, false, false, false, false, false, false, false, false, false, false, false, false, false, false, false, false, false, false, false, false, false, false, false, false, false, false, false, false, false, false, false, false, false] (by kernel_rfl) rfl rfl ⟨(blk_cell BK488.out 0).trans rfl, (blk_cell BK488.out 1).trans rfl, (blk_cell BK488.out 2).trans rfl, (blk_cell BK488.out 3).trans rfl, (blk_cell BK488.out 4).trans rfl, (blk_cell BK482.out 0).trans rfl, (blk_cell BK482.out 1).trans rfl, (blk_cell BK482.out 2).trans rfl, (blk_cell BK482.out 3).trans rfl, (blk_cell BK482.out 4).trans rfl, (blk_cell BK494.out 0).trans rfl, (blk_cell BK494.out 1).trans rfl, (blk_cell BK494.out 2).trans rfl, (blk_cell BK494.out 3).trans rfl, (blk_cell BK494.out 4).trans rfl⟩ (fun hHeld => ?_); refine with_tabW tenementlaw07_StampOrder.tab13 tenementlaw07_StampOrder.bits13 (fun HT_ HW_ => ?_)
          generalize wc.drew = w122 at BK473 BK474 BK475 BK482 BK488 BK494 HB hHeld ⊢
          refine pure_ (i := 0) (N := some 54) (v := ?_) (a' := ?_) #[true, false, false, false, false, false, false, false, false, false, false, false, false, false, false, false, false, false, false, false, false, false, false, false, false, false, false, false, false, false, false, false, false, false, false, false, false, false, false, false, false, false, false] rfl rfl (any_of HT_.out (by kernel_rfl)) (fun _ _ _ h => h) (Or.inl ⟨by rfl, ?_⟩) ?_ ?_
          rotate_left
          · intro w'
            go_simp
            with_reducible rfl
          rotate_left
          · simp only [Act.put, List.setIfInBounds_toArray, List.set_cons_zero, List.set_cons_succ, i64_w, i32_w]
            rfl
          refine pure_ (i := 1) (N := some 55) (v := ?_) (a' := ?_) #[true, true, false, false, false, false, false, false, false, false, false, false, false, false, false, false, false, false, false, false, false, false, false, false, false, false, false, false, false, false, false, false, false, false, false, false, false, false, false, false, false, false, false] rfl rfl (any_of HT_.out (by kernel_rfl)) (fun _ _ _ h => h) (Or.inl ⟨by rfl, ?_⟩) ?_ ?_
          rotate_left
          · intro w'
            go_simp
            with_reducible rfl
          rotate_left
          · simp only [Act.put, List.setIfInBounds_toArray, List.set_cons_zero, List.set_cons_succ, i64_w, i32_w]
            rfl
          refine pure_ (i := 2) (N := some 56) (v := ?_) (a' := ?_) #[true, true, true, false, false, false, false, false, false, false, false, false, false, false, false, false, false, false, false, false, false, false, false, false, false, false, false, false, false, false, false, false, false, false, false, false, false, false, false, false, false, false, false] rfl rfl (any_of HT_.out (by kernel_rfl)) (fun _ _ _ h => h) (Or.inl ⟨by rfl, ?_⟩) ?_ ?_
          rotate_left
          · intro w'
            go_simp
            with_reducible rfl
          rotate_left
          · simp only [Act.put, List.setIfInBounds_toArray, List.set_cons_zero, List.set_cons_succ, i64_w, i32_w]
            rfl
          refine take_ (i := 3) (N := some 57) (v := ?_) (a' := ?_) #[true, true, true, true, false, false, false, false, false, false, false, false, false, false, false, false, false, false, false, false, false, false, false, false, false, false, false, false, false, false, false, false, false, false, false, false, false, false, false, false, false, false, false] rfl rfl (take_ofW HT_.out HW_.out (by kernel_rfl)) (fun _ _ _ h => h) (Or.inl ⟨by rfl, ?_⟩) hHeld ?_ ?_
          rotate_left
          · rintro w' ⟨s0, s1, s2, s3, s4, s5, s6, s7, s8, s9, s10, s11, s12, s13, s14⟩
            go_simp
            with_reducible rfl
          rotate_left
          · simp only [Act.put, List.setIfInBounds_toArray, List.set_cons_zero, List.set_cons_succ, i64_w, i32_w]
            rfl
          refine take_ (i := 4) (N := some 58) (v := ?_) (a' := ?_) #[true, true, true, true, true, false, false, false, false, false, false, false, false, false, false, false, false, false, false, false, false, false, false, false, false, false, false, false, false, false, false, false, false, false, false, false, false, false, false, false, false, false, false] rfl rfl (take_ofW HT_.out HW_.out (by kernel_rfl)) (fun _ _ _ h => h) (Or.inl ⟨by rfl, ?_⟩) hHeld ?_ ?_
          rotate_left
          · rintro w' ⟨s0, s1, s2, s3, s4, s5, s6, s7, s8, s9, s10, s11, s12, s13, s14⟩
            go_simp
            with_reducible rfl
          rotate_left
          · simp only [Act.put, List.setIfInBounds_toArray, List.set_cons_zero, List.set_cons_succ, i64_w, i32_w]
            rfl
          refine one_ (i := 5) (N := some 59) #[true, true, true, true, true, true, false, false, false, false, false, false, false, false, false, false, false, false, false, false, false, false, false, false, false, false, false, false, false, false, false, false, false, false, false, false, false, false, false, false, false, false, false] rfl rfl (one_of HT_.out (by kernel_rfl)) (by decide) (fun K hK => ?_)
          refine goes_ Tryd.func21 (by kernel_rfl) rfl #[.agg #[.int .u64 t483, .int .u64 t484, .int .u64 t485, .int .u64 t486, .int .i64 t487], .agg #[.int .u64 t477, .int .u64 t478, .int .u64 t479, .int .u64 t480, .int .i64 t481]] (by rfl) rfl rfl (by (try simp only [List.map_toArray, List.map_cons, List.map_nil]); first | done | rfl | (simp only [List.length_drop, List.length_take]; rfl)) ?_
          with_reducible refine (stamp_Order.calls kj80 t483 t484 t485 t486 t487 t477 t478 t479 t480 t481 t499 _ A110.out).mono ?_
          rintro e w123 ⟨rfl, hb⟩
          refine ⟨_, rfl, ?_⟩
          replace BK473 := Kb_ BK473 hb
          replace BK474 := Kb_ BK474 hb
          replace BK475 := Kb_ BK475 hb
          replace BK482 := Kb_ BK482 hb
          replace BK488 := Kb_ BK488 hb
          replace BK494 := Kb_ BK494 hb
          replace HB := Ks_ HB hb
          (try clear hb)
          (try clear hb2)
          (try clear hk)
          (try clear hi)
          refine hK.out _ _ ⟨(blk_cell BK488.out 0).trans rfl, (blk_cell BK488.out 1).trans rfl, (blk_cell BK488.out 2).trans rfl, (blk_cell BK488.out 3).trans rfl, (blk_cell BK488.out 4).trans rfl, (blk_cell BK482.out 0).trans rfl, (blk_cell BK482.out 1).trans rfl, (blk_cell BK482.out 2).trans rfl, (blk_cell BK482.out 3).trans rfl, (blk_cell BK482.out 4).trans rfl, (blk_cell BK494.out 0).trans rfl, (blk_cell BK494.out 1).trans rfl, (blk_cell BK494.out 2).trans rfl, (blk_cell BK494.out 3).trans rfl, (blk_cell BK494.out 4).trans rfl⟩ (fun hHeld => ?_)
          clear hK K
          refine norm_ (a' := ?_) ?_ ?_
          rotate_left
          · show Act.put _ (some 59) _ = _
            simp only [Act.put, List.setIfInBounds_toArray, List.set_cons_zero, List.set_cons_succ, i64_w, i32_w]
            rfl
          refine pure_ (i := 6) (N := some 60) (v := ?_) (a' := ?_) #[true, true, true, true, true, true, true, false, false, false, false, false, false, false, false, false, false, false, false, false, false, false, false, false, false, false, false, false, false, false, false, false, false, false, false, false, false, false, false, false, false, false, false] rfl rfl (any_of HT_.out (by kernel_rfl)) (fun _ _ _ h => h) (Or.inl ⟨by rfl, ?_⟩) ?_ ?_
          rotate_left
          · intro w'
            go_simp
            with_reducible rfl
          rotate_left
          · simp only [Act.put, List.setIfInBounds_toArray, List.set_cons_zero, List.set_cons_succ, i64_w, i32_w]
            rfl
          refine pure_ (i := 7) (N := some 61) (v := ?_) (a' := ?_) #[true, true, true, true, true, true, true, true, false, false, false, false, false, false, false, false, false, false, false, false, false, false, false, false, false, false, false, false, false, false, false, false, false, false, false, false, false, false, false, false, false, false, false] rfl rfl (any_of HT_.out (by kernel_rfl)) (fun _ _ _ h => h) (Or.inl ⟨by rfl, ?_⟩) ?_ ?_
          rotate_left
          · intro w'
            go_simp
            with_reducible rfl
          rotate_left
          · simp only [Act.put, List.setIfInBounds_toArray, List.set_cons_zero, List.set_cons_succ, i64_w, i32_w]
            rfl
          refine pure_ (i := 8) (N := some 62) (v := ?_) (a' := ?_) #[true, true, true, true, true, true, true, true, true, false, false, false, false, false, false, false, false, false, false, false, false, false, false, false, false, false, false, false, false, false, false, false, false, false, false, false, false, false, false, false, false, false, false] rfl rfl (any_of HT_.out (by kernel_rfl)) (fun _ _ _ h => h) (Or.inl ⟨by rfl, ?_⟩) ?_ ?_
          rotate_left
          · intro w'
            go_simp
            with_reducible rfl
          rotate_left
          · simp only [Act.put, List.setIfInBounds_toArray, List.set_cons_zero, List.set_cons_succ, i64_w, i32_w]
            rfl
          refine pure_ (i := 9) (N := some 63) (v := ?_) (a' := ?_) #[true, true, true, true, true, true, true, true, true, true, false, false, false, false, false, false, false, false, false, false, false, false, false, false, false, false, false, false, false, false, false, false, false, false, false, false, false, false, false, false, false, false, false] rfl rfl (any_of HT_.out (by kernel_rfl)) (fun _ _ _ h => h) (Or.inl ⟨by rfl, ?_⟩) ?_ ?_
          rotate_left
          · intro w'
            go_simp
            with_reducible rfl
          rotate_left
          · simp only [Act.put, List.setIfInBounds_toArray, List.set_cons_zero, List.set_cons_succ, i64_w, i32_w]
            rfl
          refine pure_ (i := 10) (N := some 64) (v := ?_) (a' := ?_) #[true, true, true, true, true, true, true, true, true, true, true, false, false, false, false, false, false, false, false, false, false, false, false, false, false, false, false, false, false, false, false, false, false, false, false, false, false, false, false, false, false, false, false] rfl rfl (any_of HT_.out (by kernel_rfl)) (fun _ _ _ h => h) (Or.inl ⟨by rfl, ?_⟩) ?_ ?_
          rotate_left
          · intro w'
            go_simp
            with_reducible rfl
          rotate_left
          · simp only [Act.put, List.setIfInBounds_toArray, List.set_cons_zero, List.set_cons_succ, i64_w, i32_w]
            rfl
          refine pure_ (i := 11) (N := some 65) (v := ?_) (a' := ?_) #[true, true, true, true, true, true, true, true, true, true, true, true, false, false, false, false, false, false, false, false, false, false, false, false, false, false, false, false, false, false, false, false, false, false, false, false, false, false, false, false, false, false, false] rfl rfl (any_of HT_.out (by kernel_rfl)) (fun _ _ _ h => h) (Or.inl ⟨by rfl, ?_⟩) ?_ ?_
          rotate_left
          · intro w'
            go_simp
            with_reducible rfl
          rotate_left
          · simp only [Act.put, List.setIfInBounds_toArray, List.set_cons_zero, List.set_cons_succ, i64_w, i32_w]
            rfl
          refine take_ (i := 12) (N := some 66) (v := ?_) (a' := ?_) #[true, true, true, true, true, true, true, true, true, true, true, true, true, false, false, false, false, false, false, false, false, false, false, false, false, false, false, false, false, false, false, false, false, false, false, false, false, false, false, false, false, false, false] rfl rfl (take_ofW HT_.out HW_.out (by kernel_rfl)) (fun _ _ _ h => h) (Or.inl ⟨by rfl, ?_⟩) hHeld ?_ ?_
          rotate_left
          · rintro w' ⟨s0, s1, s2, s3, s4, s5, s6, s7, s8, s9, s10, s11, s12, s13, s14⟩
            go_simp
            with_reducible rfl
          rotate_left
          · simp only [Act.put, List.setIfInBounds_toArray, List.set_cons_zero, List.set_cons_succ, i64_w, i32_w]
            rfl
          refine take_ (i := 13) (N := some 67) (v := ?_) (a' := ?_) #[true, true, true, true, true, true, true, true, true, true, true, true, true, true, false, false, false, false, false, false, false, false, false, false, false, false, false, false, false, false, false, false, false, false, false, false, false, false, false, false, false, false, false] rfl rfl (take_ofW HT_.out HW_.out (by kernel_rfl)) (fun _ _ _ h => h) (Or.inl ⟨by rfl, ?_⟩) hHeld ?_ ?_
          rotate_left
          · rintro w' ⟨s0, s1, s2, s3, s4, s5, s6, s7, s8, s9, s10, s11, s12, s13, s14⟩
            go_simp
            with_reducible rfl
          rotate_left
          · simp only [Act.put, List.setIfInBounds_toArray, List.set_cons_zero, List.set_cons_succ, i64_w, i32_w]
            rfl
          refine pure_ (i := 14) (N := some 68) (v := ?_) (a' := ?_) #[true, true, true, true, true, true, true, true, true, true, true, true, true, true, true, false, false, false, false, false, false, false, false, false, false, false, false, false, false, false, false, false, false, false, false, false, false, false, false, false, false, false, false] rfl rfl (any_of HT_.out (by kernel_rfl)) (fun _ _ _ h => h) (Or.inl ⟨by rfl, ?_⟩) ?_ ?_
          rotate_left
          · intro w'
            go_simp
            with_reducible rfl
          rotate_left
          · simp only [Act.put, List.setIfInBounds_toArray, List.set_cons_zero, List.set_cons_succ, i64_w, i32_w]
            rfl
          refine pure_ (i := 15) (N := some 69) (v := ?_) (a' := ?_) #[true, true, true, true, true, true, true, true, true, true, true, true, true, true, true, true, false, false, false, false, false, false, false, false, false, false, false, false, false, false, false, false, false, false, false, false, false, false, false, false, false, false, false] rfl rfl (any_of HT_.out (by kernel_rfl)) (fun _ _ _ h => h) (Or.inl ⟨by rfl, ?_⟩) ?_ ?_
          rotate_left
          · intro w'
            go_simp
            with_reducible rfl
          rotate_left
          · simp only [Act.put, List.setIfInBounds_toArray, List.set_cons_zero, List.set_cons_succ, i64_w, i32_w]
            rfl
          refine pure_ (i := 16) (N := some 70) (v := ?_) (a' := ?_) #[true, true, true, true, true, true, true, true, true, true, true, true, true, true, true, true, true, false, false, false, false, false, false, false, false, false, false, false, false, false, false, false, false, false, false, false, false, false, false, false, false, false, false] rfl rfl (any_of HT_.out (by kernel_rfl)) (fun _ _ _ h => h) (Or.inl ⟨by rfl, ?_⟩) ?_ ?_
          rotate_left
          · intro w'
            go_simp
            with_reducible rfl
          rotate_left
          · simp only [Act.put, List.setIfInBounds_toArray, List.set_cons_zero, List.set_cons_succ, i64_w, i32_w]
            rfl
          refine pure_ (i := 17) (N := some 71) (v := ?_) (a' := ?_) #[true, true, true, true, true, true, true, true, true, true, true, true, true, true, true, true, true, true, false, false, false, false, false, false, false, false, false, false, false, false, false, false, false, false, false, false, false, false, false, false, false, false, false] rfl rfl (any_of HT_.out (by kernel_rfl)) (fun _ _ _ h => h) (Or.inl ⟨by rfl, ?_⟩) ?_ ?_
          rotate_left
          · intro w'
            go_simp
            with_reducible rfl
          rotate_left
          · simp only [Act.put, List.setIfInBounds_toArray, List.set_cons_zero, List.set_cons_succ, i64_w, i32_w]
            rfl
          refine pure_ (i := 18) (N := some 72) (v := ?_) (a' := ?_) #[true, true, true, true, true, true, true, true, true, true, true, true, true, true, true, true, true, true, true, false, false, false, false, false, false, false, false, false, false, false, false, false, false, false, false, false, false, false, false, false, false, false, false] rfl rfl (any_of HT_.out (by kernel_rfl)) (fun _ _ _ h => h) (Or.inl ⟨by rfl, ?_⟩) ?_ ?_
          rotate_left
          · intro w'
            go_simp
            with_reducible rfl
          rotate_left
          · simp only [Act.put, List.setIfInBounds_toArray, List.set_cons_zero, List.set_cons_succ, i64_w, i32_w]
            rfl
          refine pure_ (i := 19) (N := some 73) (v := ?_) (a' := ?_) #[true, true, true, true, true, true, true, true, true, true, true, true, true, true, true, true, true, true, true, true, false, false, false, false, false, false, false, false, false, false, false, false, false, false, false, false, false, false, false, false, false, false, false] rfl rfl (any_of HT_.out (by kernel_rfl)) (fun _ _ _ h => h) (Or.inl ⟨by rfl, ?_⟩) ?_ ?_
          rotate_left
          · intro w'
            go_simp
            with_reducible rfl
          rotate_left
          · simp only [Act.put, List.setIfInBounds_toArray, List.set_cons_zero, List.set_cons_succ, i64_w, i32_w]
            rfl
          refine pure_ (i := 20) (N := some 74) (v := ?_) (a' := ?_) #[true, true, true, true, true, true, true, true, true, true, true, true, true, true, true, true, true, true, true, true, true, false, false, false, false, false, false, false, false, false, false, false, false, false, false, false, false, false, false, false, false, false, false] rfl rfl (any_of HT_.out (by kernel_rfl)) (fun _ _ _ h => h) (Or.inl ⟨by rfl, ?_⟩) ?_ ?_
          rotate_left
          · intro w'
            go_simp
            with_reducible rfl
          rotate_left
          · simp only [Act.put, List.setIfInBounds_toArray, List.set_cons_zero, List.set_cons_succ, i64_w, i32_w]
            rfl
          refine pure_ (i := 21) (N := some 75) (v := ?_) (a' := ?_) #[true, true, true, true, true, true, true, true, true, true, true, true, true, true, true, true, true, true, true, true, true, true, false, false, false, false, false, false, false, false, false, false, false, false, false, false, false, false, false, false, false, false, false] rfl rfl (any_of HT_.out (by kernel_rfl)) (fun _ _ _ h => h) (Or.inl ⟨by rfl, ?_⟩) ?_ ?_
          rotate_left
          · intro w'
            go_simp
            with_reducible rfl
          rotate_left
          · simp only [Act.put, List.setIfInBounds_toArray, List.set_cons_zero, List.set_cons_succ, i64_w, i32_w]
            rfl
          refine pure_ (i := 22) (N := some 76) (v := ?_) (a' := ?_) #[true, true, true, true, true, true, true, true, true, true, true, true, true, true, true, true, true, true, true, true, true, true, true, false, false, false, false, false, false, false, false, false, false, false, false, false, false, false, false, false, false, false, false] rfl rfl (any_of HT_.out (by kernel_rfl)) (fun _ _ _ h => h) (Or.inl ⟨by rfl, ?_⟩) ?_ ?_
          rotate_left
          · intro w'
            go_simp
            with_reducible rfl
          rotate_left
          · simp only [Act.put, List.setIfInBounds_toArray, List.set_cons_zero, List.set_cons_succ, i64_w, i32_w]
            rfl
          refine pure_ (i := 23) (N := some 77) (v := ?_) (a' := ?_) #[true, true, true, true, true, true, true, true, true, true, true, true, true, true, true, true, true, true, true, true, true, true, true, true, false, false, false, false, false, false, false, false, false, false, false, false, false, false, false, false, false, false, false] rfl rfl (any_of HT_.out (by kernel_rfl)) (fun _ _ _ h => h) (Or.inl ⟨by rfl, ?_⟩) ?_ ?_
          rotate_left
          · intro w'
            go_simp
            with_reducible rfl
          rotate_left
          · simp only [Act.put, List.setIfInBounds_toArray, List.set_cons_zero, List.set_cons_succ, i64_w, i32_w]
            rfl
          refine pure_ (i := 24) (N := some 78) (v := ?_) (a' := ?_) #[true, true, true, true, true, true, true, true, true, true, true, true, true, true, true, true, true, true, true, true, true, true, true, true, true, false, false, false, false, false, false, false, false, false, false, false, false, false, false, false, false, false, false] rfl rfl (any_of HT_.out (by kernel_rfl)) (fun _ _ _ h => h) (Or.inl ⟨by rfl, ?_⟩) ?_ ?_
          rotate_left
          · intro w'
            go_simp
            with_reducible rfl
          rotate_left
          · simp only [Act.put, List.setIfInBounds_toArray, List.set_cons_zero, List.set_cons_succ, i64_w, i32_w]
            rfl
          refine pure_ (i := 25) (N := some 79) (v := ?_) (a' := ?_) #[true, true, true, true, true, true, true, true, true, true, true, true, true, true, true, true, true, true, true, true, true, true, true, true, true, true, false, false, false, false, false, false, false, false, false, false, false, false, false, false, false, false, false] rfl rfl (any_of HT_.out (by kernel_rfl)) (fun _ _ _ h => h) (Or.inl ⟨by rfl, ?_⟩) ?_ ?_
          rotate_left
          · intro w'
            go_simp
            with_reducible rfl
          rotate_left
          · simp only [Act.put, List.setIfInBounds_toArray, List.set_cons_zero, List.set_cons_succ, i64_w, i32_w]
            rfl
          refine pure_ (i := 26) (N := some 80) (v := ?_) (a' := ?_) #[true, true, true, true, true, true, true, true, true, true, true, true, true, true, true, true, true, true, true, true, true, true, true, true, true, true, true, false, false, false, false, false, false, false, false, false, false, false, false, false, false, false, false] rfl rfl (any_of HT_.out (by kernel_rfl)) (fun _ _ _ h => h) (Or.inl ⟨by rfl, ?_⟩) ?_ ?_
          rotate_left
          · intro w'
            go_simp
            with_reducible rfl
          rotate_left
          · simp only [Act.put, List.setIfInBounds_toArray, List.set_cons_zero, List.set_cons_succ, i64_w, i32_w]
            rfl
          refine pure_ (i := 27) (N := some 81) (v := ?_) (a' := ?_) #[true, true, true, true, true, true, true, true, true, true, true, true, true, true, true, true, true, true, true, true, true, true, true, true, true, true, true, true, false, false, false, false, false, false, false, false, false, false, false, false, false, false, false] rfl rfl (any_of HT_.out (by kernel_rfl)) (fun _ _ _ h => h) (Or.inl ⟨by rfl, ?_⟩) ?_ ?_
          rotate_left
          · intro w'
            go_simp
            with_reducible rfl
          rotate_left
          · simp only [Act.put, List.setIfInBounds_toArray, List.set_cons_zero, List.set_cons_succ, i64_w, i32_w]
            rfl
          refine pure_ (i := 28) (N := some 82) (v := ?_) (a' := ?_) #[true, true, true, true, true, true, true, true, true, true, true, true, true, true, true, true, true, true, true, true, true, true, true, true, true, true, true, true, true, false, false, false, false, false, false, false, false, false, false, false, false, false, false] rfl rfl (any_of HT_.out (by kernel_rfl)) (fun _ _ _ h => h) (Or.inl ⟨by rfl, ?_⟩) ?_ ?_
          rotate_left
          · intro w'
            go_simp
            with_reducible rfl
          rotate_left
          · simp only [Act.put, List.setIfInBounds_toArray, List.set_cons_zero, List.set_cons_succ, i64_w, i32_w]
            rfl
          refine pure_ (i := 29) (N := some 83) (v := ?_) (a' := ?_) #[true, true, true, true, true, true, true, true, true, true, true, true, true, true, true, true, true, true, true, true, true, true, true, true, true, true, true, true, true, true, false, false, false, false, false, false, false, false, false, false, false, false, false] rfl rfl (any_of HT_.out (by kernel_rfl)) (fun _ _ _ h => h) (Or.inl ⟨by rfl, ?_⟩) ?_ ?_
          rotate_left
          · intro w'
            go_simp
            with_reducible rfl
          rotate_left
          · simp only [Act.put, List.setIfInBounds_toArray, List.set_cons_zero, List.set_cons_succ, i64_w, i32_w]
            rfl
          refine take_ (i := 30) (N := some 84) (v := ?_) (a' := ?_) #[true, true, true, true, true, true, true, true, true, true, true, true, true, true, true, true, true, true, true, true, true, true, true, true, true, true, true, true, true, true, true, false, false, false, false, false, false, false, false, false, false, false, false] rfl rfl (take_ofW HT_.out HW_.out (by kernel_rfl)) (fun _ _ _ h => h) (Or.inl ⟨by rfl, ?_⟩) hHeld ?_ ?_
          rotate_left
          · rintro w' ⟨s0, s1, s2, s3, s4, s5, s6, s7, s8, s9, s10, s11, s12, s13, s14⟩
            go_simp
            with_reducible rfl
          rotate_left
          · simp only [Act.put, List.setIfInBounds_toArray, List.set_cons_zero, List.set_cons_succ, i64_w, i32_w]
            rfl
          refine take_ (i := 31) (N := some 85) (v := ?_) (a' := ?_) #[true, true, true, true, true, true, true, true, true, true, true, true, true, true, true, true, true, true, true, true, true, true, true, true, true, true, true, true, true, true, true, true, false, false, false, false, false, false, false, false, false, false, false] rfl rfl (take_ofW HT_.out HW_.out (by kernel_rfl)) (fun _ _ _ h => h) (Or.inl ⟨by rfl, ?_⟩) hHeld ?_ ?_
          rotate_left
          · rintro w' ⟨s0, s1, s2, s3, s4, s5, s6, s7, s8, s9, s10, s11, s12, s13, s14⟩
            go_simp
            with_reducible rfl
          rotate_left
          · simp only [Act.put, List.setIfInBounds_toArray, List.set_cons_zero, List.set_cons_succ, i64_w, i32_w]
            rfl
          refine take_ (i := 32) (N := some 86) (v := ?_) (a' := ?_) #[true, true, true, true, true, true, true, true, true, true, true, true, true, true, true, true, true, true, true, true, true, true, true, true, true, true, true, true, true, true, true, true, true, false, false, false, false, false, false, false, false, false, false] rfl rfl (take_ofW HT_.out HW_.out (by kernel_rfl)) (fun _ _ _ h => h) (Or.inl ⟨by rfl, ?_⟩) hHeld ?_ ?_
          rotate_left
          · rintro w' ⟨s0, s1, s2, s3, s4, s5, s6, s7, s8, s9, s10, s11, s12, s13, s14⟩
            go_simp
            with_reducible rfl
          rotate_left
          · simp only [Act.put, List.setIfInBounds_toArray, List.set_cons_zero, List.set_cons_succ, i64_w, i32_w]
            rfl
          refine take_ (i := 35) (N := some 89) (v := ?_) (a' := ?_) #[true, true, true, true, true, true, true, true, true, true, true, true, true, true, true, true, true, true, true, true, true, true, true, true, true, true, true, true, true, true, true, true, true, false, false, true, false, false, false, false, false, false, false] rfl rfl (take_ofW HT_.out HW_.out (by kernel_rfl)) (fun _ _ _ h => h) (Or.inl ⟨by rfl, ?_⟩) hHeld ?_ ?_
          rotate_left
          · rintro w' ⟨s0, s1, s2, s3, s4, s5, s6, s7, s8, s9, s10, s11, s12, s13, s14⟩
            go_simp
            with_reducible rfl
          rotate_left
          · simp only [Act.put, List.setIfInBounds_toArray, List.set_cons_zero, List.set_cons_succ, i64_w, i32_w]
            rfl
          refine take_ (i := 36) (N := some 90) (v := ?_) (a' := ?_) #[true, true, true, true, true, true, true, true, true, true, true, true, true, true, true, true, true, true, true, true, true, true, true, true, true, true, true, true, true, true, true, true, true, false, false, true, true, false, false, false, false, false, false] rfl rfl (take_ofW HT_.out HW_.out (by kernel_rfl)) (fun _ _ _ h => h) (Or.inl ⟨by rfl, ?_⟩) hHeld ?_ ?_
          rotate_left
          · rintro w' ⟨s0, s1, s2, s3, s4, s5, s6, s7, s8, s9, s10, s11, s12, s13, s14⟩
            go_simp
            with_reducible rfl
          rotate_left
          · simp only [Act.put, List.setIfInBounds_toArray, List.set_cons_zero, List.set_cons_succ, i64_w, i32_w]
            rfl
          refine take_ (i := 38) (N := some 92) (v := ?_) (a' := ?_) #[true, true, true, true, true, true, true, true, true, true, true, true, true, true, true, true, true, true, true, true, true, true, true, true, true, true, true, true, true, true, true, true, true, false, false, true, true, false, true, false, false, false, false] rfl rfl (take_ofW HT_.out HW_.out (by kernel_rfl)) (fun _ _ _ h => h) (Or.inl ⟨by rfl, ?_⟩) hHeld ?_ ?_
          rotate_left
          · rintro w' ⟨s0, s1, s2, s3, s4, s5, s6, s7, s8, s9, s10, s11, s12, s13, s14⟩
            go_simp
            with_reducible rfl
          rotate_left
          · simp only [Act.put, List.setIfInBounds_toArray, List.set_cons_zero, List.set_cons_succ, i64_w, i32_w]
            rfl
          refine one_ (i := 33) (N := some 87) #[true, true, true, true, true, true, true, true, true, true, true, true, true, true, true, true, true, true, true, true, true, true, true, true, true, true, true, true, true, true, true, true, true, true, false, true, true, false, true, false, false, false, false] rfl rfl (one_of HT_.out (by kernel_rfl)) (by decide) (fun K hK => ?_)
          refine goes_ Tryd.func15 (by kernel_rfl) rfl #[.agg #[.int .u64 t483, .int .u64 t484, .int .u64 t485, .int .u64 t486, .int .i64 t487], .agg #[.int .u64 t489, .int .u64 t490, .int .u64 t491, .int .u64 t492, .int .i64 t493]] (by rfl) rfl rfl (by (try simp only [List.map_toArray, List.map_cons, List.map_nil]); first | done | rfl | (simp only [List.length_drop, List.length_take]; rfl)) ?_
          with_reducible refine (stamp_Later.calls kj80 t483 t484 t485 t486 t487 t489 t490 t491 t492 t493 t500 t501 t502 t503 t504 _ A117.out).mono ?_
          rintro e w124 ⟨rfl, hb⟩
          refine ⟨_, rfl, ?_⟩
          replace BK473 := Kb_ BK473 hb
          replace BK474 := Kb_ BK474 hb
          replace BK475 := Kb_ BK475 hb
          replace BK482 := Kb_ BK482 hb
          replace BK488 := Kb_ BK488 hb
          replace BK494 := Kb_ BK494 hb
          replace HB := Ks_ HB hb
          (try clear hb)
          (try clear hb2)
          (try clear hk)
          (try clear hi)
          refine hK.out _ _ ⟨(blk_cell BK488.out 0).trans rfl, (blk_cell BK488.out 1).trans rfl, (blk_cell BK488.out 2).trans rfl, (blk_cell BK488.out 3).trans rfl, (blk_cell BK488.out 4).trans rfl, (blk_cell BK482.out 0).trans rfl, (blk_cell BK482.out 1).trans rfl, (blk_cell BK482.out 2).trans rfl, (blk_cell BK482.out 3).trans rfl, (blk_cell BK482.out 4).trans rfl, (blk_cell BK494.out 0).trans rfl, (blk_cell BK494.out 1).trans rfl, (blk_cell BK494.out 2).trans rfl, (blk_cell BK494.out 3).trans rfl, (blk_cell BK494.out 4).trans rfl⟩ (fun hHeld => ?_)
          clear hK K
          refine norm_ (a' := ?_) ?_ ?_
          rotate_left
          · show Act.put _ (some 87) _ = _
            simp only [Act.put, List.setIfInBounds_toArray, List.set_cons_zero, List.set_cons_succ, i64_w, i32_w]
            rfl
          refine one_ (i := 34) (N := some 88) #[true, true, true, true, true, true, true, true, true, true, true, true, true, true, true, true, true, true, true, true, true, true, true, true, true, true, true, true, true, true, true, true, true, true, true, true, true, false, true, false, false, false, false] rfl rfl (one_of HT_.out (by kernel_rfl)) (by decide) (fun K hK => ?_)
          refine goes_ Tryd.func15 (by kernel_rfl) rfl #[.agg #[.int .u64 t477, .int .u64 t478, .int .u64 t479, .int .u64 t480, .int .i64 t481], .agg #[.int .u64 t500, .int .u64 t501, .int .u64 t502, .int .u64 t503, .int .i64 t504]] (by rfl) rfl rfl (by (try simp only [List.map_toArray, List.map_cons, List.map_nil]); first | done | rfl | (simp only [List.length_drop, List.length_take]; rfl)) ?_
          with_reducible refine (stamp_Later.calls kj80 t477 t478 t479 t480 t481 t500 t501 t502 t503 t504 t505 t506 t507 t508 t509 _ A118.out).mono ?_
          rintro e w125 ⟨rfl, hb⟩
          refine ⟨_, rfl, ?_⟩
          replace BK473 := Kb_ BK473 hb
          replace BK474 := Kb_ BK474 hb
          replace BK475 := Kb_ BK475 hb
          replace BK482 := Kb_ BK482 hb
          replace BK488 := Kb_ BK488 hb
          replace BK494 := Kb_ BK494 hb
          replace HB := Ks_ HB hb
          (try clear hb)
          (try clear hb2)
          (try clear hk)
          (try clear hi)
          refine hK.out _ _ ⟨(blk_cell BK488.out 0).trans rfl, (blk_cell BK488.out 1).trans rfl, (blk_cell BK488.out 2).trans rfl, (blk_cell BK488.out 3).trans rfl, (blk_cell BK488.out 4).trans rfl, (blk_cell BK482.out 0).trans rfl, (blk_cell BK482.out 1).trans rfl, (blk_cell BK482.out 2).trans rfl, (blk_cell BK482.out 3).trans rfl, (blk_cell BK482.out 4).trans rfl, (blk_cell BK494.out 0).trans rfl, (blk_cell BK494.out 1).trans rfl, (blk_cell BK494.out 2).trans rfl, (blk_cell BK494.out 3).trans rfl, (blk_cell BK494.out 4).trans rfl⟩ (fun hHeld => ?_)
          clear hK K
          refine norm_ (a' := ?_) ?_ ?_
          rotate_left
          · show Act.put _ (some 88) _ = _
            simp only [Act.put, List.setIfInBounds_toArray, List.set_cons_zero, List.set_cons_succ, i64_w, i32_w]
            rfl
          refine one_ (i := 37) (N := some 91) #[true, true, true, true, true, true, true, true, true, true, true, true, true, true, true, true, true, true, true, true, true, true, true, true, true, true, true, true, true, true, true, true, true, true, true, true, true, true, true, false, false, false, false] rfl rfl (one_of HT_.out (by kernel_rfl)) (by decide) (fun K hK => ?_)
          refine goes_ Tryd.func15 (by kernel_rfl) rfl #[.agg #[.int .u64 t489, .int .u64 t490, .int .u64 t491, .int .u64 t492, .int .i64 t493], .agg #[.int .u64 t477, .int .u64 t478, .int .u64 t479, .int .u64 t480, .int .i64 t481]] (by rfl) rfl rfl (by (try simp only [List.map_toArray, List.map_cons, List.map_nil]); first | done | rfl | (simp only [List.length_drop, List.length_take]; rfl)) ?_
          with_reducible refine (stamp_Later.calls kj80 t489 t490 t491 t492 t493 t477 t478 t479 t480 t481 t510 t511 t512 t513 t514 _ A119.out).mono ?_
          rintro e w126 ⟨rfl, hb⟩
          refine ⟨_, rfl, ?_⟩
          replace BK473 := Kb_ BK473 hb
          replace BK474 := Kb_ BK474 hb
          replace BK475 := Kb_ BK475 hb
          replace BK482 := Kb_ BK482 hb
          replace BK488 := Kb_ BK488 hb
          replace BK494 := Kb_ BK494 hb
          replace HB := Ks_ HB hb
          (try clear hb)
          (try clear hb2)
          (try clear hk)
          (try clear hi)
          refine hK.out _ _ ⟨(blk_cell BK488.out 0).trans rfl, (blk_cell BK488.out 1).trans rfl, (blk_cell BK488.out 2).trans rfl, (blk_cell BK488.out 3).trans rfl, (blk_cell BK488.out 4).trans rfl, (blk_cell BK482.out 0).trans rfl, (blk_cell BK482.out 1).trans rfl, (blk_cell BK482.out 2).trans rfl, (blk_cell BK482.out 3).trans rfl, (blk_cell BK482.out 4).trans rfl, (blk_cell BK494.out 0).trans rfl, (blk_cell BK494.out 1).trans rfl, (blk_cell BK494.out 2).trans rfl, (blk_cell BK494.out 3).trans rfl, (blk_cell BK494.out 4).trans rfl⟩ (fun hHeld => ?_)
          clear hK K
          refine norm_ (a' := ?_) ?_ ?_
          rotate_left
          · show Act.put _ (some 91) _ = _
            simp only [Act.put, List.setIfInBounds_toArray, List.set_cons_zero, List.set_cons_succ, i64_w, i32_w]
            rfl
          refine one_ (i := 39) (N := some 93) #[true, true, true, true, true, true, true, true, true, true, true, true, true, true, true, true, true, true, true, true, true, true, true, true, true, true, true, true, true, true, true, true, true, true, true, true, true, true, true, true, false, false, false] rfl rfl (one_of HT_.out (by kernel_rfl)) (by decide) (fun K hK => ?_)
          refine goes_ Tryd.func15 (by kernel_rfl) rfl #[.agg #[.int .u64 t510, .int .u64 t511, .int .u64 t512, .int .u64 t513, .int .i64 t514], .agg #[.int .u64 t483, .int .u64 t484, .int .u64 t485, .int .u64 t486, .int .i64 t487]] (by rfl) rfl rfl (by (try simp only [List.map_toArray, List.map_cons, List.map_nil]); first | done | rfl | (simp only [List.length_drop, List.length_take]; rfl)) ?_
          with_reducible refine (stamp_Later.calls kj80 t510 t511 t512 t513 t514 t483 t484 t485 t486 t487 t515 t516 t517 t518 t519 _ A120.out).mono ?_
          rintro e w127 ⟨rfl, hb⟩
          refine ⟨_, rfl, ?_⟩
          replace BK473 := Kb_ BK473 hb
          replace BK474 := Kb_ BK474 hb
          replace BK475 := Kb_ BK475 hb
          replace BK482 := Kb_ BK482 hb
          replace BK488 := Kb_ BK488 hb
          replace BK494 := Kb_ BK494 hb
          replace HB := Ks_ HB hb
          (try clear hb)
          (try clear hb2)
          (try clear hk)
          (try clear hi)
          refine hK.out _ _ ⟨(blk_cell BK488.out 0).trans rfl, (blk_cell BK488.out 1).trans rfl, (blk_cell BK488.out 2).trans rfl, (blk_cell BK488.out 3).trans rfl, (blk_cell BK488.out 4).trans rfl, (blk_cell BK482.out 0).trans rfl, (blk_cell BK482.out 1).trans rfl, (blk_cell BK482.out 2).trans rfl, (blk_cell BK482.out 3).trans rfl, (blk_cell BK482.out 4).trans rfl, (blk_cell BK494.out 0).trans rfl, (blk_cell BK494.out 1).trans rfl, (blk_cell BK494.out 2).trans rfl, (blk_cell BK494.out 3).trans rfl, (blk_cell BK494.out 4).trans rfl⟩ (fun hHeld => ?_)
          clear hK K
          refine norm_ (a' := ?_) ?_ ?_
          rotate_left
          · show Act.put _ (some 93) _ = _
            simp only [Act.put, List.setIfInBounds_toArray, List.set_cons_zero, List.set_cons_succ, i64_w, i32_w]
            rfl
          refine pure_ (i := 40) (N := some 94) (v := ?_) (a' := ?_) #[true, true, true, true, true, true, true, true, true, true, true, true, true, true, true, true, true, true, true, true, true, true, true, true, true, true, true, true, true, true, true, true, true, true, true, true, true, true, true, true, true, false, false] rfl rfl (any_of HT_.out (by kernel_rfl)) (fun _ _ _ h => h) (Or.inl ⟨by rfl, ?_⟩) ?_ ?_
          rotate_left
          · intro w'
            go_simp
            with_reducible rfl
          rotate_left
          · simp only [Act.put, List.setIfInBounds_toArray, List.set_cons_zero, List.set_cons_succ, i64_w, i32_w]
            rfl
          refine pure_ (i := 41) (N := some 95) (v := ?_) (a' := ?_) #[true, true, true, true, true, true, true, true, true, true, true, true, true, true, true, true, true, true, true, true, true, true, true, true, true, true, true, true, true, true, true, true, true, true, true, true, true, true, true, true, true, true, false] rfl rfl (any_of HT_.out (by kernel_rfl)) (fun _ _ _ h => h) (Or.inl ⟨by rfl, ?_⟩) ?_ ?_
          rotate_left
          · intro w'
            go_simp
            with_reducible rfl
          rotate_left
          · simp only [Act.put, List.setIfInBounds_toArray, List.set_cons_zero, List.set_cons_succ, i64_w, i32_w]
            rfl
          refine pure_ (i := 42) (N := some 6) (v := ?_) (a' := ?_) #[true, true, true, true, true, true, true, true, true, true, true, true, true, true, true, true, true, true, true, true, true, true, true, true, true, true, true, true, true, true, true, true, true, true, true, true, true, true, true, true, true, true, true] rfl rfl (any_of HT_.out (by kernel_rfl)) (fun _ _ _ h => h) (Or.inl ⟨by rfl, ?_⟩) ?_ ?_
          rotate_left
          · intro w'
            go_simp
            with_reducible rfl
          rotate_left
          · simp only [Act.put, List.setIfInBounds_toArray, List.set_cons_zero, List.set_cons_succ, i64_w, i32_w]
            rfl
          refine done_ (done_of HT_.out (by kernel_rfl)) ?_
          try go_wp2
          go_ret
          exact ⟨by first | rfl | (simp [errW_none, errW_some] <;> rfl) | (simp [*, errW_none, errW_some] <;> rfl), by repeat (first | (with_reducible first | exact HB.out | apply below_alloc | apply pw_below_drewN | apply below_drew1 | refine below_set ?_ GE473.out | refine below_set ?_ GE474.out | refine below_set ?_ GE475.out | refine below_set ?_ GE482.out | refine below_set ?_ GE488.out | refine below_set ?_ GE494.out) | exact HB.out)⟩

end Go.Proofs.YtdlagefpglhdoaaDoor.Q
