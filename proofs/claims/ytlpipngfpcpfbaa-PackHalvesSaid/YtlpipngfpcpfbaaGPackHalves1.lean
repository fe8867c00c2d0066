import Derived.Test.YtlpipngfpcpfbaaQx0
import Derived.Test.YtlpipngfpcpfbaaGPackHalves0
import Derived.Test.YtlpipngfpcpfbaaWAMore
import Derived.Deep.Slices
import Derived.OpenShut
import Derived.SizedLaws
import Derived.ChangeArms
import Derived.WideShapes
import Derived.ChangeShapes
import Derived.KernelRfl
namespace Go.Proofs.Ytlpipngfpcpfbaa.Q
open Go.RowKit Go.Proofs.YtlpipngfpcpfbaaW.PrintWords Go.Proofs.YtlpipngfpcpfbaaW.PrintLast Go.Proofs.YtlpipngfpcpfbaaW.PrintMore
attribute [local go_sem] max2_int min2_int max_two min_two max_three min_three max_four min_four   -- for this text's walks alone
set_option linter.unusedVariables false
set_option linter.unusedSimpArgs false
/-! ### pack_Halves_int16: function 10 -/
def pack_Halves_int16.f (l0 : List Int) : Option (List Int × List Int) := if 0 ≤ (wrap64 (Int.tdiv (wrap64 ((l0.length : Int) + 1)) 2)) then (if (wrap64 (Int.tdiv (wrap64 ((l0.length : Int) + 1)) 2)) ≤ (l0.length : Int) then (if ([] : List Int).length + (l0.take ((wrap64 (Int.tdiv (wrap64 ((l0.length : Int) + 1)) 2)) : Int).toNat).length < 70368744177664 then (if ([] : List Int).length + (l0.drop ((wrap64 (Int.tdiv (wrap64 ((l0.length : Int) + 1)) 2)) : Int).toNat).length < 70368744177664 then (some ((([] : List Int) ++ (l0.take ((wrap64 (Int.tdiv (wrap64 ((l0.length : Int) + 1)) 2)) : Int).toNat)), (([] : List Int) ++ (l0.drop ((wrap64 (Int.tdiv (wrap64 ((l0.length : Int) + 1)) 2)) : Int).toNat)))) else (none)) else (none)) else (none)) else (none)
def pack_Halves_int16.T2 : Bool × List (List Nat × List Nat) := (true, [([], []), ([], []), ([], []), ([1, 2], [1, 2]), ([0, 3], [0, 3]), ([], []), ([], []), ([], []), ([6, 7], [6, 7]), ([5, 8, 4], [5, 8]), ([4, 9, 0, 1, 2, 3, 4], [0, 4]), ([9, 10, 0, 1, 2, 3, 4, 5, 6, 7, 8, 9, 10], [5, 9])])
def pack_Halves_int16.B2 : List Nat := [0, 0, 0, 6, 15, 0, 0, 0, 192, 511, 1023, 2047]
theorem pack_Halves_int16.tab2 : rtab .any (opsOf Try.f10 2) = pack_Halves_int16.T2 := by kernel_rfl
theorem pack_Halves_int16.bits2 : waitsOk pack_Halves_int16.T2.2 pack_Halves_int16.B2 = true := by kernel_rfl
set_option maxHeartbeats 8000000 in
set_option maxRecDepth 100000 in
theorem pack_Halves_int16.calls (A0 : Option Addr) (c0 : Nat) (l0 : List Int) (r1 : List Int) (r2 : List Int) (w : World) (hr0 : Kd.C (Kd.int .i16) w A0 l0.length l0) (hc0 : l0.length ≤ c0) (h : pack_Halves_int16.f l0 = some (r1, r2)) :
    Calls Try.prog 10 #[.slice A0 l0.length c0] w fun e w' => ∃ v0_ v1_ : Value, e = .returned (.tuple #[v0_, v1_]) ∧ Kd.R (Kd.int .i16) 26 w' w.heap.size (fun k_ => some k_ ≠ (v1_ : Value).ownBlock) v0_ r1 ∧ Kd.R (Kd.int .i16) 26 w' w.heap.size (fun k_ => some k_ ≠ (v0_ : Value).ownBlock) v1_ r2 ∧ Below w.heap.size w w' := by
  have HR0 := Aside0.mk hr0
  have HC0 := Aside0.mk hc0
  clear hr0 hc0
  have HB := Aside0.mk (Below.refl w.heap.size w)
  have H : (if 0 ≤ (wrap64 (Int.tdiv (wrap64 ((l0.length : Int) + 1)) 2)) then (if (wrap64 (Int.tdiv (wrap64 ((l0.length : Int) + 1)) 2)) ≤ (l0.length : Int) then (if ([] : List Int).length + (l0.take ((wrap64 (Int.tdiv (wrap64 ((l0.length : Int) + 1)) 2)) : Int).toNat).length < 70368744177664 then (if ([] : List Int).length + (l0.drop ((wrap64 (Int.tdiv (wrap64 ((l0.length : Int) + 1)) 2)) : Int).toNat).length < 70368744177664 then (some ((([] : List Int) ++ (l0.take ((wrap64 (Int.tdiv (wrap64 ((l0.length : Int) + 1)) 2)) : Int).toNat)), (([] : List Int) ++ (l0.drop ((wrap64 (Int.tdiv (wrap64 ((l0.length : Int) + 1)) 2)) : Int).toNat)))) else (none)) else (none)) else (none)) else (none)) = some (r1, r2) := h
  clear h
  obtain ⟨ji2, hji2⟩ : ∃ j_ : Int, (wrap64 (Int.tdiv (wrap64 ((l0.length : Int) + 1)) 2)) = j_ := ⟨_, rfl⟩
  replace H : (if 0 ≤ (ji2) then (if (ji2) ≤ (l0.length : Int) then (if ([] : List Int).length + (l0.take ((ji2) : Int).toNat).length < 70368744177664 then (if ([] : List Int).length + (l0.drop ((ji2) : Int).toNat).length < 70368744177664 then (some ((([] : List Int) ++ (l0.take ((ji2) : Int).toNat)), (([] : List Int) ++ (l0.drop ((ji2) : Int).toNat)))) else (none)) else (none)) else (none)) else (none)) = some (r1, r2) := by first | (rw [hji2] at H; exact H) | (simp only [hji2] at H ⊢; exact H)
  have hji2w : (IntKind.i64.wrap (Int.tdiv (wrap64 ((l0.length : Int) + 1)) 2)) = ji2 := (i64_w _).trans hji2
  by_cases c3 : 0 ≤ (ji2)
  rotate_left
  · rw [if_neg c3] at H
    exact absurd H (by simp)
  rw [if_pos c3] at H
  have c3b0 := eq_true c3
  have c3b1 : decide (0 ≤ (ji2)) = true := decide_eq_true c3
  clear c3
  by_cases c4 : (ji2) ≤ (l0.length : Int)
  rotate_left
  · rw [if_neg c4] at H
    exact absurd H (by simp)
  rw [if_pos c4] at H
  have c4b0 := eq_true c4
  have c4b1 : decide ((ji2) ≤ (l0.length : Int)) = true := decide_eq_true c4
  clear c4
  by_cases c5 : ([] : List Int).length + (l0.take ((ji2) : Int).toNat).length < 70368744177664
  rotate_left
  · rw [if_neg c5] at H
    exact absurd H (by simp)
  rw [if_pos c5] at H
  have LMc5 := Aside0.mk c5
  clear c5
  obtain ⟨y171, hy171⟩ : ∃ y_ : List Int, y_ = (([] : List Int) ++ (l0.take ((ji2) : Int).toNat)) := ⟨_, rfl⟩
  replace H : (if ([] : List Int).length + (l0.drop ((ji2) : Int).toNat).length < 70368744177664 then (some (y171, (([] : List Int) ++ (l0.drop ((ji2) : Int).toNat)))) else (none)) = some (r1, r2) := by first | (rw [hy171]; with_reducible exact H) | (have H2_ := (Option.bind_some _ _).symm.trans H; rw [hy171]; with_reducible exact H2_) | (have H2_ := (Option.bind_some _ _).symm.trans H; with_reducible exact H2_) | with_reducible exact H | (rw [hy171]; exact H) | exact H
  have Ny171 := Aside0.mk hy171
  clear hy171
  have c6b0 := eq_true (of_decide_eq_true (by first | (with_reducible assumption) | assumption) : 0 ≤ (ji2))
  have c7b0 := eq_true (of_decide_eq_true (by first | (with_reducible assumption) | assumption) : (ji2) ≤ (l0.length : Int))
  by_cases c8 : ([] : List Int).length + (l0.drop ((ji2) : Int).toNat).length < 70368744177664
  rotate_left
  · rw [if_neg c8] at H
    exact absurd H (by simp)
  rw [if_pos c8] at H
  have LMc8 := Aside0.mk c8
  clear c8
  obtain ⟨y175, hy175⟩ : ∃ y_ : List Int, y_ = (([] : List Int) ++ (l0.drop ((ji2) : Int).toNat)) := ⟨_, rfl⟩
  replace H : (some (y171, y175)) = some (r1, r2) := by first | (rw [hy175]; with_reducible exact H) | (have H2_ := (Option.bind_some _ _).symm.trans H; rw [hy175]; with_reducible exact H2_) | (have H2_ := (Option.bind_some _ _).symm.trans H; with_reducible exact H2_) | with_reducible exact H | (rw [hy175]; exact H) | exact H
  have Ny175 := Aside0.mk hy175
  clear hy175
  simp only [Option.some.injEq, Prod.mk.injEq] at H
  obtain ⟨rfl, rfl⟩ := H
  go_enter Try.func10, Try.ntmps10
  try go_wp2
  replace HB := Aside0.mk (below_drew1 HB.out)
  obtain ⟨i010, hi010, _, hsz10, _⟩ := info_parts info26
  obtain ⟨hcut10, hA10, hC10⟩ := print_take_of (P := Try.prog) (Value.int .i16) 0 22 26 .i64 Try.underlying22 hi010 hsz10 A0 c0 l0 (ji2) (of_decide_eq_true (by first | (with_reducible assumption) | assumption)) (of_decide_eq_true (by first | (with_reducible assumption) | assumption)) HC0.out
  have HR170 := Aside0.mk (Kd.C_of_reads (h1 := fun _ => rfl) (hA10 _ (Kd.reads_of_C HR0.out)))
  have HC170 := Aside0.mk hC10
  clear hA10 hC10 hi010 hsz10
  obtain ⟨i011, hi011, _, hsz11, _⟩ := info_parts info26
  obtain ⟨A11, hcut11, hA11, hC11⟩ := print_drop_of (P := Try.prog) (Value.int .i16) 0 22 26 .i64 Try.underlying22 hi011 hsz11 A0 c0 l0 (ji2) (of_decide_eq_true (by first | (with_reducible assumption) | assumption)) (of_decide_eq_true (by first | (with_reducible assumption) | assumption)) HC0.out
  have HR174 := Aside0.mk (Kd.C_of_reads (h1 := fun _ => rfl) (hA11 _ (Kd.reads_of_C HR0.out)))
  have HC174 := Aside0.mk hC11
  clear hA11 hC11 hi011 hsz11
  refine start_ (n := 12) (S := fun w' => True) (ds := []) #[false, false, false, false, false, false, false, false, false, false, false, false] (by kernel_rfl) rfl rfl trivial (fun hHeld => ?_); refine with_tabW pack_Halves_int16.tab2 pack_Halves_int16.bits2 (fun HT_ HW_ => ?_)
  generalize w.drew = w9 at HB HR170 HR174 hHeld ⊢
  refine Kp_ 0 9 #[true, false, false, false, false, false, false, false, false, false, false, false] (any_of HT_.out (by kernel_rfl)) ?_
  refine Kp_ 1 10 #[true, true, false, false, false, false, false, false, false, false, false, false] (any_of HT_.out (by kernel_rfl)) ?_
  refine Kp_ 2 11 #[true, true, true, false, false, false, false, false, false, false, false, false] (any_of HT_.out (by kernel_rfl)) ?_
  refine Kp_ 3 12 #[true, true, true, true, false, false, false, false, false, false, false, false] (any_of HT_.out (by kernel_rfl)) ?_
  refine Kp_ 5 14 #[true, true, true, true, false, true, false, false, false, false, false, false] (any_of HT_.out (by kernel_rfl)) ?_
  refine Kp_ 6 15 #[true, true, true, true, false, true, true, false, false, false, false, false] (any_of HT_.out (by kernel_rfl)) ?_
  refine Kp_ 7 16 #[true, true, true, true, false, true, true, true, false, false, false, false] (any_of HT_.out (by kernel_rfl)) ?_
  refine Kp_ 8 17 #[true, true, true, true, false, true, true, true, true, false, false, false] (any_of HT_.out (by kernel_rfl)) ?_
  refine one_ (i := 4) (N := some 13) #[true, true, true, true, true, true, true, true, true, false, false, false] rfl rfl (one_of HT_.out (by kernel_rfl)) (by decide) (fun K hK => ?_)
  refine Kd.R_append_rows_step (Kd.int .i16) (w0 := w) w.heap.size (by rfl) (.tmp 9) (.tmp 12) 22 26 (.int .i16 0) 2 rfl Try.underlying22 info26 rfl (by decide) (by omega) (.slice none 0 0) ([] : List Int) (l0.take ((ji2) : Int).toNat) _ _ _ (fun _ => True) (fun _ => False) rfl rfl ?aO ?aR (fun _ _ h => h) (fun _ h => h.elim) ?aF ?aB ?aS ?aL ?_
  (case aR => first | (have hE_ := (show (l0.take ((ji2) : Int).toNat).length = (ji2).toNat from (by rw [List.length_take]; have h_ : ((ji2) : Int) ≤ (l0.length : Int) := of_decide_eq_true (by first | (with_reducible assumption) | assumption); omega)); (repeat (first | (have hC_ := (Kd.C_below HR170.out HB.out); rw [hE_] at hC_; exact hC_) | (with_reducible refine Kd.C_alloc ?_ _) | (with_reducible refine Kd.C_drewN ?_ _) | (with_reducible refine Kd.C_drew ?_))); done) | (rw [← show (l0.take ((ji2) : Int).toNat).length = (ji2).toNat from (by rw [List.length_take]; have h_ : ((ji2) : Int) ≤ (l0.length : Int) := of_decide_eq_true (by first | (with_reducible assumption) | assumption); omega)]; repeat (first | exact (Kd.C_below HR170.out HB.out) | (with_reducible refine Kd.C_alloc ?_ _) | (with_reducible refine Kd.C_drewN ?_ _) | (with_reducible refine Kd.C_drew ?_))) | (repeat (first | exact (Kd.C_below HR170.out HB.out) | (with_reducible refine Kd.C_alloc ?_ _) | (with_reducible refine Kd.C_drewN ?_ _) | (with_reducible refine Kd.C_drew ?_))))
  (case aB => exact (Ky_ HB))
  (case aF => exact (fun _ _ => trivial))
  (case aO => exact ((Kd.R_nil _ _ _ _ (fun _ => True))))
  (case aS => exact (below_size (Ky_ HB)))
  (case aL => have := LMc5.out; have hlx_ := (show (l0.take ((ji2) : Int).toNat).length = (ji2).toNat from (by rw [List.length_take]; have h_ : ((ji2) : Int) ≤ (l0.length : Int) := of_decide_eq_true (by first | (with_reducible assumption) | assumption); omega)); omega)
  intro v172 w12 ho hb hg hat
  rw [← Ny171.out] at ho
  have HO173 := Aside0.mk (ho)
  replace HB := Aside0.mk (hb)
  clear ho hb hg hat
  refine hK.out _ _ trivial (fun hHeld => ?_)
  clear hK K
  refine Kn_ 13 ?_
  refine one_ (i := 9) (N := some 18) #[true, true, true, true, true, true, true, true, true, true, false, false] rfl rfl (one_of HT_.out (by kernel_rfl)) (by decide) (fun K hK => ?_)
  refine Kd.R_append_rows_step (Kd.int .i16) (w0 := w) w.heap.size (by rfl) (.tmp 14) (.tmp 17) 22 26 (.int .i16 0) 2 rfl Try.underlying22 info26 rfl (by decide) (by omega) (.slice none 0 0) ([] : List Int) (l0.drop ((ji2) : Int).toNat) _ _ _ (fun k_ => some k_ ≠ (v172 : Value).ownBlock) (fun _ => False) rfl rfl ?aO ?aR (fun _ _ h => h) (fun _ h => h.elim) ?aF ?aB ?aS ?aL ?_
  (case aR => first | (rw [← show (l0.drop ((ji2) : Int).toNat).length = (l0.length - (ji2).toNat) from List.length_drop]; repeat (first | exact (Kd.C_below HR174.out HB.out) | (with_reducible refine Kd.C_alloc ?_ _) | (with_reducible refine Kd.C_drewN ?_ _) | (with_reducible refine Kd.C_drew ?_))) | (repeat (first | exact (Kd.C_below HR174.out HB.out) | (with_reducible refine Kd.C_alloc ?_ _) | (with_reducible refine Kd.C_drewN ?_ _) | (with_reducible refine Kd.C_drew ?_))))
  (case aB => exact (Ky_ HB))
  (case aF => exact (fun k_ hk => Kd.fresh' (Kd.R_lt (Ku_ HO173)) k_ hk))
  (case aO => exact ((Kd.R_nil _ _ _ _ (fun k_ => some k_ ≠ (v172 : Value).ownBlock))))
  (case aS => exact (below_size (Ky_ HB)))
  (case aL => have := LMc8.out; have hlx_ := (show (l0.drop ((ji2) : Int).toNat).length = (l0.length - (ji2).toNat) from List.length_drop); omega)
  intro v176 w13 ho hb hg hat
  rw [← Ny175.out] at ho
  have HO177 := Aside0.mk (ho)
  replace HO173 := Aside0.mk (Kd.R_after (Kd.R_apart_nil (Ku_ HO173)) hg hat)
  replace HB := Aside0.mk (hb)
  clear ho hb hg hat
  refine hK.out _ _ trivial (fun hHeld => ?_)
  clear hK K
  refine Kn_ 18 ?_
  refine Kp_ 10 2 #[true, true, true, true, true, true, true, true, true, true, true, false] (any_of HT_.out (by kernel_rfl)) ?_
  refine Kp_ 11 3 #[true, true, true, true, true, true, true, true, true, true, true, true] (any_of HT_.out (by kernel_rfl)) ?_
  refine done_ (done_of HT_.out (by kernel_rfl)) ?_
  try go_wp2
  go_ret2
  exact ⟨_, _, by first | rfl | (simp [errW_none, errW_some] <;> rfl) | (simp only [← hji2]; first | rfl | (simp [errW_none, errW_some] <;> rfl)) | (simp [*, errW_none, errW_some] <;> rfl), by (with_reducible repeat (first | apply Kd.R_alloc | apply Kd.R_drewN | apply Kd.R_drew)); exact Kd.R_mono HO173.out (fun _ hk => hk.2), by (with_reducible repeat (first | apply Kd.R_alloc | apply Kd.R_drewN | apply Kd.R_drew)); exact HO177.out, Ky_ HB⟩
/-! ### pack_Halves_byte: function 11 -/
def pack_Halves_byte.f (l0 : List Int) : Option (List Int × List Int) := if 0 ≤ (wrap64 (Int.tdiv (wrap64 ((l0.length : Int) + 1)) 2)) then (if (wrap64 (Int.tdiv (wrap64 ((l0.length : Int) + 1)) 2)) ≤ (l0.length : Int) then (if ([] : List Int).length + (l0.take ((wrap64 (Int.tdiv (wrap64 ((l0.length : Int) + 1)) 2)) : Int).toNat).length < 140737488355328 then (if ([] : List Int).length + (l0.drop ((wrap64 (Int.tdiv (wrap64 ((l0.length : Int) + 1)) 2)) : Int).toNat).length < 140737488355328 then (some ((([] : List Int) ++ (l0.take ((wrap64 (Int.tdiv (wrap64 ((l0.length : Int) + 1)) 2)) : Int).toNat)), (([] : List Int) ++ (l0.drop ((wrap64 (Int.tdiv (wrap64 ((l0.length : Int) + 1)) 2)) : Int).toNat)))) else (none)) else (none)) else (none)) else (none)
def pack_Halves_byte.T2 : Bool × List (List Nat × List Nat) := (true, [([], []), ([], []), ([], []), ([1, 2], [1, 2]), ([0, 3], [0, 3]), ([], []), ([], []), ([], []), ([6, 7], [6, 7]), ([5, 8, 4], [5, 8]), ([4, 9, 0, 1, 2, 3, 4], [0, 4]), ([9, 10, 0, 1, 2, 3, 4, 5, 6, 7, 8, 9, 10], [5, 9])])
def pack_Halves_byte.B2 : List Nat := [0, 0, 0, 6, 15, 0, 0, 0, 192, 511, 1023, 2047]
theorem pack_Halves_byte.tab2 : rtab .any (opsOf Try.f11 2) = pack_Halves_byte.T2 := by kernel_rfl
theorem pack_Halves_byte.bits2 : waitsOk pack_Halves_byte.T2.2 pack_Halves_byte.B2 = true := by kernel_rfl
set_option maxHeartbeats 8000000 in
set_option maxRecDepth 100000 in
theorem pack_Halves_byte.calls (A0 : Option Addr) (c0 : Nat) (l0 : List Int) (r1 : List Int) (r2 : List Int) (w : World) (hr0 : Kd.C (Kd.int .u8) w A0 l0.length l0) (hc0 : l0.length ≤ c0) (h : pack_Halves_byte.f l0 = some (r1, r2)) :
    Calls Try.prog 11 #[.slice A0 l0.length c0] w fun e w' => ∃ v0_ v1_ : Value, e = .returned (.tuple #[v0_, v1_]) ∧ Kd.R (Kd.int .u8) 5 w' w.heap.size (fun k_ => some k_ ≠ (v1_ : Value).ownBlock) v0_ r1 ∧ Kd.R (Kd.int .u8) 5 w' w.heap.size (fun k_ => some k_ ≠ (v0_ : Value).ownBlock) v1_ r2 ∧ Below w.heap.size w w' := by
  have HR0 := Aside0.mk hr0
  have HC0 := Aside0.mk hc0
  clear hr0 hc0
  have HB := Aside0.mk (Below.refl w.heap.size w)
  have H : (if 0 ≤ (wrap64 (Int.tdiv (wrap64 ((l0.length : Int) + 1)) 2)) then (if (wrap64 (Int.tdiv (wrap64 ((l0.length : Int) + 1)) 2)) ≤ (l0.length : Int) then (if ([] : List Int).length + (l0.take ((wrap64 (Int.tdiv (wrap64 ((l0.length : Int) + 1)) 2)) : Int).toNat).length < 140737488355328 then (if ([] : List Int).length + (l0.drop ((wrap64 (Int.tdiv (wrap64 ((l0.length : Int) + 1)) 2)) : Int).toNat).length < 140737488355328 then (some ((([] : List Int) ++ (l0.take ((wrap64 (Int.tdiv (wrap64 ((l0.length : Int) + 1)) 2)) : Int).toNat)), (([] : List Int) ++ (l0.drop ((wrap64 (Int.tdiv (wrap64 ((l0.length : Int) + 1)) 2)) : Int).toNat)))) else (none)) else (none)) else (none)) else (none)) = some (r1, r2) := h
  clear h
  obtain ⟨ji2, hji2⟩ : ∃ j_ : Int, (wrap64 (Int.tdiv (wrap64 ((l0.length : Int) + 1)) 2)) = j_ := ⟨_, rfl⟩
  replace H : (if 0 ≤ (ji2) then (if (ji2) ≤ (l0.length : Int) then (if ([] : List Int).length + (l0.take ((ji2) : Int).toNat).length < 140737488355328 then (if ([] : List Int).length + (l0.drop ((ji2) : Int).toNat).length < 140737488355328 then (some ((([] : List Int) ++ (l0.take ((ji2) : Int).toNat)), (([] : List Int) ++ (l0.drop ((ji2) : Int).toNat)))) else (none)) else (none)) else (none)) else (none)) = some (r1, r2) := by first | (rw [hji2] at H; exact H) | (simp only [hji2] at H ⊢; exact H)
  have hji2w : (IntKind.i64.wrap (Int.tdiv (wrap64 ((l0.length : Int) + 1)) 2)) = ji2 := (i64_w _).trans hji2
  by_cases c3 : 0 ≤ (ji2)
  rotate_left
  · rw [if_neg c3] at H
    exact absurd H (by simp)
  rw [if_pos c3] at H
  have c3b0 := eq_true c3
  have c3b1 : decide (0 ≤ (ji2)) = true := decide_eq_true c3
  clear c3
  by_cases c4 : (ji2) ≤ (l0.length : Int)
  rotate_left
  · rw [if_neg c4] at H
    exact absurd H (by simp)
  rw [if_pos c4] at H
  have c4b0 := eq_true c4
  have c4b1 : decide ((ji2) ≤ (l0.length : Int)) = true := decide_eq_true c4
  clear c4
  by_cases c5 : ([] : List Int).length + (l0.take ((ji2) : Int).toNat).length < 140737488355328
  rotate_left
  · rw [if_neg c5] at H
    exact absurd H (by simp)
  rw [if_pos c5] at H
  have LMc5 := Aside0.mk c5
  clear c5
  obtain ⟨y179, hy179⟩ : ∃ y_ : List Int, y_ = (([] : List Int) ++ (l0.take ((ji2) : Int).toNat)) := ⟨_, rfl⟩
  replace H : (if ([] : List Int).length + (l0.drop ((ji2) : Int).toNat).length < 140737488355328 then (some (y179, (([] : List Int) ++ (l0.drop ((ji2) : Int).toNat)))) else (none)) = some (r1, r2) := by first | (rw [hy179]; with_reducible exact H) | (have H2_ := (Option.bind_some _ _).symm.trans H; rw [hy179]; with_reducible exact H2_) | (have H2_ := (Option.bind_some _ _).symm.trans H; with_reducible exact H2_) | with_reducible exact H | (rw [hy179]; exact H) | exact H
  have Ny179 := Aside0.mk hy179
  clear hy179
  have c6b0 := eq_true (of_decide_eq_true (by first | (with_reducible assumption) | assumption) : 0 ≤ (ji2))
  have c7b0 := eq_true (of_decide_eq_true (by first | (with_reducible assumption) | assumption) : (ji2) ≤ (l0.length : Int))
  by_cases c8 : ([] : List Int).length + (l0.drop ((ji2) : Int).toNat).length < 140737488355328
  rotate_left
  · rw [if_neg c8] at H
    exact absurd H (by simp)
  rw [if_pos c8] at H
  have LMc8 := Aside0.mk c8
  clear c8
  obtain ⟨y183, hy183⟩ : ∃ y_ : List Int, y_ = (([] : List Int) ++ (l0.drop ((ji2) : Int).toNat)) := ⟨_, rfl⟩
  replace H : (some (y179, y183)) = some (r1, r2) := by first | (rw [hy183]; with_reducible exact H) | (have H2_ := (Option.bind_some _ _).symm.trans H; rw [hy183]; with_reducible exact H2_) | (have H2_ := (Option.bind_some _ _).symm.trans H; with_reducible exact H2_) | with_reducible exact H | (rw [hy183]; exact H) | exact H
  have Ny183 := Aside0.mk hy183
  clear hy183
  simp only [Option.some.injEq, Prod.mk.injEq] at H
  obtain ⟨rfl, rfl⟩ := H
  go_enter Try.func11, Try.ntmps11
  try go_wp2
  replace HB := Aside0.mk (below_drew1 HB.out)
  obtain ⟨i010, hi010, _, hsz10, _⟩ := info_parts info5
  obtain ⟨hcut10, hA10, hC10⟩ := print_take_of (P := Try.prog) (Value.int .u8) 0 27 5 .i64 Try.underlying27 hi010 hsz10 A0 c0 l0 (ji2) (of_decide_eq_true (by first | (with_reducible assumption) | assumption)) (of_decide_eq_true (by first | (with_reducible assumption) | assumption)) HC0.out
  have HR178 := Aside0.mk (Kd.C_of_reads (h1 := fun _ => rfl) (hA10 _ (Kd.reads_of_C HR0.out)))
  have HC178 := Aside0.mk hC10
  clear hA10 hC10 hi010 hsz10
  obtain ⟨i011, hi011, _, hsz11, _⟩ := info_parts info5
  obtain ⟨A11, hcut11, hA11, hC11⟩ := print_drop_of (P := Try.prog) (Value.int .u8) 0 27 5 .i64 Try.underlying27 hi011 hsz11 A0 c0 l0 (ji2) (of_decide_eq_true (by first | (with_reducible assumption) | assumption)) (of_decide_eq_true (by first | (with_reducible assumption) | assumption)) HC0.out
  have HR182 := Aside0.mk (Kd.C_of_reads (h1 := fun _ => rfl) (hA11 _ (Kd.reads_of_C HR0.out)))
  have HC182 := Aside0.mk hC11
  clear hA11 hC11 hi011 hsz11
  refine start_ (n := 12) (S := fun w' => True) (ds := []) #[false, false, false, false, false, false, false, false, false, false, false, false] (by kernel_rfl) rfl rfl trivial (fun hHeld => ?_); refine with_tabW pack_Halves_byte.tab2 pack_Halves_byte.bits2 (fun HT_ HW_ => ?_)
  generalize w.drew = w9 at HB HR178 HR182 hHeld ⊢
  refine Kp_ 0 9 #[true, false, false, false, false, false, false, false, false, false, false, false] (any_of HT_.out (by kernel_rfl)) ?_
  refine Kp_ 1 10 #[true, true, false, false, false, false, false, false, false, false, false, false] (any_of HT_.out (by kernel_rfl)) ?_
  refine Kp_ 2 11 #[true, true, true, false, false, false, false, false, false, false, false, false] (any_of HT_.out (by kernel_rfl)) ?_
  refine Kp_ 3 12 #[true, true, true, true, false, false, false, false, false, false, false, false] (any_of HT_.out (by kernel_rfl)) ?_
  refine Kp_ 5 14 #[true, true, true, true, false, true, false, false, false, false, false, false] (any_of HT_.out (by kernel_rfl)) ?_
  refine Kp_ 6 15 #[true, true, true, true, false, true, true, false, false, false, false, false] (any_of HT_.out (by kernel_rfl)) ?_
  refine Kp_ 7 16 #[true, true, true, true, false, true, true, true, false, false, false, false] (any_of HT_.out (by kernel_rfl)) ?_
  refine Kp_ 8 17 #[true, true, true, true, false, true, true, true, true, false, false, false] (any_of HT_.out (by kernel_rfl)) ?_
  refine one_ (i := 4) (N := some 13) #[true, true, true, true, true, true, true, true, true, false, false, false] rfl rfl (one_of HT_.out (by kernel_rfl)) (by decide) (fun K hK => ?_)
  refine Kd.R_append_rows_step (Kd.int .u8) (w0 := w) w.heap.size (by rfl) (.tmp 9) (.tmp 12) 27 5 (.int .u8 0) 1 rfl Try.underlying27 info5 rfl (by decide) (by omega) (.slice none 0 0) ([] : List Int) (l0.take ((ji2) : Int).toNat) _ _ _ (fun _ => True) (fun _ => False) rfl rfl ?aO ?aR (fun _ _ h => h) (fun _ h => h.elim) ?aF ?aB ?aS ?aL ?_
  (case aR => first | (have hE_ := (show (l0.take ((ji2) : Int).toNat).length = (ji2).toNat from (by rw [List.length_take]; have h_ : ((ji2) : Int) ≤ (l0.length : Int) := of_decide_eq_true (by first | (with_reducible assumption) | assumption); omega)); (repeat (first | (have hC_ := (Kd.C_below HR178.out HB.out); rw [hE_] at hC_; exact hC_) | (with_reducible refine Kd.C_alloc ?_ _) | (with_reducible refine Kd.C_drewN ?_ _) | (with_reducible refine Kd.C_drew ?_))); done) | (rw [← show (l0.take ((ji2) : Int).toNat).length = (ji2).toNat from (by rw [List.length_take]; have h_ : ((ji2) : Int) ≤ (l0.length : Int) := of_decide_eq_true (by first | (with_reducible assumption) | assumption); omega)]; repeat (first | exact (Kd.C_below HR178.out HB.out) | (with_reducible refine Kd.C_alloc ?_ _) | (with_reducible refine Kd.C_drewN ?_ _) | (with_reducible refine Kd.C_drew ?_))) | (repeat (first | exact (Kd.C_below HR178.out HB.out) | (with_reducible refine Kd.C_alloc ?_ _) | (with_reducible refine Kd.C_drewN ?_ _) | (with_reducible refine Kd.C_drew ?_))))
  (case aB => exact (Ky_ HB))
  (case aF => exact (fun _ _ => trivial))
  (case aO => exact ((Kd.R_nil _ _ _ _ (fun _ => True))))
  (case aS => exact (below_size (Ky_ HB)))
  (case aL => have := LMc5.out; have hlx_ := (show (l0.take ((ji2) : Int).toNat).length = (ji2).toNat from (by rw [List.length_take]; have h_ : ((ji2) : Int) ≤ (l0.length : Int) := of_decide_eq_true (by first | (with_reducible assumption) | assumption); omega)); omega)
  intro v180 w12 ho hb hg hat
  rw [← Ny179.out] at ho
  have HO181 := Aside0.mk (ho)
  replace HB := Aside0.mk (hb)
  clear ho hb hg hat
  refine hK.out _ _ trivial (fun hHeld => ?_)
  clear hK K
  refine Kn_ 13 ?_
  refine one_ (i := 9) (N := some 18) #[true, true, true, true, true, true, true, true, true, true, false, false] rfl rfl (one_of HT_.out (by kernel_rfl)) (by decide) (fun K hK => ?_)
  refine Kd.R_append_rows_step (Kd.int .u8) (w0 := w) w.heap.size (by rfl) (.tmp 14) (.tmp 17) 27 5 (.int .u8 0) 1 rfl Try.underlying27 info5 rfl (by decide) (by omega) (.slice none 0 0) ([] : List Int) (l0.drop ((ji2) : Int).toNat) _ _ _ (fun k_ => some k_ ≠ (v180 : Value).ownBlock) (fun _ => False) rfl rfl ?aO ?aR (fun _ _ h => h) (fun _ h => h.elim) ?aF ?aB ?aS ?aL ?_
  (case aR => first | (rw [← show (l0.drop ((ji2) : Int).toNat).length = (l0.length - (ji2).toNat) from List.length_drop]; repeat (first | exact (Kd.C_below HR182.out HB.out) | (with_reducible refine Kd.C_alloc ?_ _) | (with_reducible refine Kd.C_drewN ?_ _) | (with_reducible refine Kd.C_drew ?_))) | (repeat (first | exact (Kd.C_below HR182.out HB.out) | (with_reducible refine Kd.C_alloc ?_ _) | (with_reducible refine Kd.C_drewN ?_ _) | (with_reducible refine Kd.C_drew ?_))))
  (case aB => exact (Ky_ HB))
  (case aF => exact (fun k_ hk => Kd.fresh' (Kd.R_lt (Ku_ HO181)) k_ hk))
  (case aO => exact ((Kd.R_nil _ _ _ _ (fun k_ => some k_ ≠ (v180 : Value).ownBlock))))
  (case aS => exact (below_size (Ky_ HB)))
  (case aL => have := LMc8.out; have hlx_ := (show (l0.drop ((ji2) : Int).toNat).length = (l0.length - (ji2).toNat) from List.length_drop); omega)
  intro v184 w13 ho hb hg hat
  rw [← Ny183.out] at ho
  have HO185 := Aside0.mk (ho)
  replace HO181 := Aside0.mk (Kd.R_after (Kd.R_apart_nil (Ku_ HO181)) hg hat)
  replace HB := Aside0.mk (hb)
  clear ho hb hg hat
  refine hK.out _ _ trivial (fun hHeld => ?_)
  clear hK K
  refine Kn_ 18 ?_
  refine Kp_ 10 2 #[true, true, true, true, true, true, true, true, true, true, true, false] (any_of HT_.out (by kernel_rfl)) ?_
  refine Kp_ 11 3 #[true, true, true, true, true, true, true, true, true, true, true, true] (any_of HT_.out (by kernel_rfl)) ?_
  refine done_ (done_of HT_.out (by kernel_rfl)) ?_
  try go_wp2
  go_ret2
  exact ⟨_, _, by first | rfl | (simp [errW_none, errW_some] <;> rfl) | (simp only [← hji2]; first | rfl | (simp [errW_none, errW_some] <;> rfl)) | (simp [*, errW_none, errW_some] <;> rfl), by (with_reducible repeat (first | apply Kd.R_alloc | apply Kd.R_drewN | apply Kd.R_drew)); exact Kd.R_mono HO181.out (fun _ hk => hk.2), by (with_reducible repeat (first | apply Kd.R_alloc | apply Kd.R_drewN | apply Kd.R_drew)); exact HO185.out, Ky_ HB⟩
end Go.Proofs.Ytlpipngfpcpfbaa.Q

/- Plain lists of bytes: numbers of as few bytes as they need, numbers of a fixed size, texts behind their length. No program here. -/
namespace Go.Proofs.Ytlpipngfpcpfbaa.Plain

/-! ### numbers of as few bytes as they need -/
def vary (n : Nat) : List Nat := if n < 128 then [n] else (n % 128 + 128) :: vary (n / 128)
termination_by n
decreasing_by omega

theorem vary_small {n : Nat} (h : n < 128) : vary n = [n] := by rw [vary, if_pos h]
theorem vary_big {n : Nat} (h : ¬ n < 128) : vary n = (n % 128 + 128) :: vary (n / 128) := by rw [vary, if_neg h]
theorem vary_ne_nil (n : Nat) : vary n ≠ [] := by
  by_cases h : n < 128
  · rw [vary_small h]; simp
  · rw [vary_big h]; simp
theorem vary_pos (n : Nat) : 0 < (vary n).length := List.length_pos_iff.2 (vary_ne_nil n)
theorem vary_lt (n : Nat) : ∀ b ∈ vary n, b < 256 := by
  induction n using Nat.strongRecOn with
  | _ n ih =>
    intro b hb
    by_cases h : n < 128
    · rw [vary_small h] at hb; simp at hb; omega
    · rw [vary_big h] at hb
      rcases List.mem_cons.1 hb with rfl | hb
      · omega
      · exact ih (n / 128) (by omega) b hb
/-- how many bytes -/
theorem vary_len_le (k : Nat) : ∀ n, n < 128 ^ (k + 1) → (vary n).length ≤ k + 1 := by
  induction k with
  | zero => intro n h; rw [vary_small (by simpa using h)]; simp
  | succ k ih =>
    intro n h
    by_cases h1 : n < 128
    · rw [vary_small h1]; simp
    · rw [vary_big h1]
      have := ih (n / 128) (by rw [Nat.div_lt_iff_lt_mul (by omega)]; rw [Nat.pow_succ] at h; exact h)
      simp; omega
theorem vary_len_gt (k : Nat) : ∀ n, 128 ^ k ≤ n → k < (vary n).length := by
  induction k with
  | zero => intro n _; exact vary_pos n
  | succ k ih =>
    intro n h
    have h1 : ¬ n < 128 := by
      have : 128 ^ 1 ≤ 128 ^ (k + 1) := Nat.pow_le_pow_right (by omega) (by omega)
      omega
    rw [vary_big h1]
    have := ih (n / 128) (by rw [Nat.le_div_iff_mul_le (by omega), ← Nat.pow_succ]; exact h)
    simp; omega
theorem vary_len_ten {n : Nat} (h : n < 18446744073709551616) : (vary n).length ≤ 10 := vary_len_le 9 n (by omega)
/-- it is the length alone that a number's bytes can be told by: where they end -/
theorem vary_prefix (n : Nat) : ∀ m (r s : List Nat), vary n ++ r = vary m ++ s → n = m ∧ r = s := by
  induction n using Nat.strongRecOn with
  | _ n ih =>
    intro m r s h
    by_cases h1 : n < 128
    · rw [vary_small h1] at h
      by_cases h2 : m < 128
      · rw [vary_small h2] at h
        simp at h; exact h
      · rw [vary_big h2] at h
        simp at h; omega
    · rw [vary_big h1] at h
      by_cases h2 : m < 128
      · rw [vary_small h2] at h
        simp at h; omega
      · rw [vary_big h2] at h
        simp only [List.cons_append, List.cons.injEq] at h
        obtain ⟨e, h⟩ := h
        obtain ⟨e2, h⟩ := ih (n / 128) (by omega) (m / 128) r s h
        exact ⟨by omega, h⟩
theorem vary_inj {n m : Nat} (h : vary n = vary m) : n = m := (vary_prefix n m [] [] (by rw [h])).1
/-- the byte at a place -/
theorem vary_get (i : Nat) : ∀ n, i < (vary n).length → (vary n)[i]? = some (n / 128 ^ i % 128 + if i + 1 < (vary n).length then 128 else 0) := by
  induction i with
  | zero =>
    intro n hi
    by_cases h : n < 128
    · rw [vary_small h]; simp; omega
    · rw [vary_big h]
      have := vary_pos (n / 128)
      simp [this]
  | succ i ih =>
    intro n hi
    by_cases h : n < 128
    · rw [vary_small h] at hi; simp at hi
    · have e := vary_big h
      have hl : (vary n).length = (vary (n / 128)).length + 1 := by rw [e]; rfl
      rw [e, List.getElem?_cons_succ, ih (n / 128) (by omega)]
      congr 2
      · rw [Nat.div_div_eq_div_mul, Nat.pow_succ, Nat.mul_comm 128]
      · simp
/-- the end: what is left of the number -/
theorem vary_len_iff (n i : Nat) : i < (vary n).length ↔ i = 0 ∨ 128 ^ i ≤ n := by
  constructor
  · intro h
    by_cases h0 : i = 0
    · exact .inl h0
    · refine .inr ?_
      rcases Nat.lt_or_ge n (128 ^ i) with hl | hl
      · obtain ⟨j, rfl⟩ : ∃ j, i = j + 1 := ⟨i - 1, by omega⟩
        have := vary_len_le j n hl
        omega
      · exact hl
  · rintro (rfl | h)
    · exact vary_pos n
    · exact vary_len_gt i n h

/-! ### numbers of a fixed size, the greatest byte first -/
def be : Nat → Nat → List Nat
  | 0, _ => []
  | k + 1, a => (a / 256 ^ k % 256) :: be k a
def bev : List Nat → Nat
  | [] => 0
  | b :: l => b * 256 ^ l.length + bev l
theorem be_len (k a : Nat) : (be k a).length = k := by induction k with | zero => rfl | succ k ih => simp [be, ih]
theorem be_lt (k a : Nat) : ∀ b ∈ be k a, b < 256 := by
  induction k with
  | zero => intro b h; simp [be] at h
  | succ k ih => intro b h; simp only [be, List.mem_cons] at h; rcases h with rfl | h <;> first | omega | exact ih b h
theorem bev_lt (l : List Nat) (h : ∀ b ∈ l, b < 256) : bev l < 256 ^ l.length := by
  induction l with
  | nil => simp [bev]
  | cons b l ih =>
    have h1 := ih (fun x hx => h x (by simp [hx]))
    have h2 : b < 256 := h b (by simp)
    simp only [bev, List.length_cons, Nat.pow_succ]
    have : b * 256 ^ l.length ≤ 255 * 256 ^ l.length := Nat.mul_le_mul_right _ (by omega)
    omega
theorem bev_be (k a : Nat) : bev (be k a) = a % 256 ^ k := by
  induction k with
  | zero => simp [be, bev, Nat.mod_one]
  | succ k ih =>
    simp only [be, bev, be_len, ih]
    rw [Nat.pow_succ, Nat.mod_mul, Nat.add_comm, Nat.mul_comm]
theorem be_bev (l : List Nat) (h : ∀ b ∈ l, b < 256) : be l.length (bev l) = l := by
  induction l with
  | nil => rfl
  | cons b l ih =>
    have h1 : ∀ b ∈ l, b < 256 := fun x hx => h x (by simp [hx])
    have h2 : b < 256 := h b (by simp)
    have h3 := bev_lt l h1
    have key : ∀ k, k ≤ l.length → be k (b * 256 ^ l.length + bev l) = be k (bev l) := by
      intro k
      induction k with
      | zero => intro _; rfl
      | succ k ihk =>
        intro hk
        simp only [be]
        rw [ihk (by omega)]
        congr 1
        have e : b * 256 ^ l.length = (b * 256 ^ (l.length - (k + 1))) * 256 * 256 ^ k := by
          rw [Nat.mul_assoc, Nat.mul_assoc, ← Nat.pow_succ', ← Nat.pow_add]
          congr 2; omega
        rw [e, Nat.add_comm, Nat.add_mul_div_right _ _ (Nat.pow_pos (by omega))]
        omega
    simp only [List.length_cons, bev, be]
    rw [key _ (Nat.le_refl _), ih h1]
    congr 1
    rw [Nat.add_comm, Nat.add_mul_div_right _ _ (Nat.pow_pos (by omega)), Nat.div_eq_of_lt h3]
    omega
theorem be_inj {k a b : Nat} (ha : a < 256 ^ k) (hb : b < 256 ^ k) (h : be k a = be k b) : a = b := by
  have := congrArg bev h
  rwa [bev_be, bev_be, Nat.mod_eq_of_lt ha, Nat.mod_eq_of_lt hb] at this
theorem bev_snoc (l : List Nat) (b : Nat) : bev (l ++ [b]) = bev l * 256 + b := by
  induction l with
  | nil => simp [bev]
  | cons a l ih =>
    simp only [List.cons_append, bev, ih, List.length_append, List.length_singleton, Nat.pow_succ]
    rw [Nat.add_mul, Nat.mul_assoc]; omega
/-- their order as bytes -/
def less : List Nat → List Nat → Bool
  | _, [] => false
  | [], _ :: _ => true
  | a :: l, b :: m => decide (a < b) || (decide (a = b) && less l m)
theorem less_be (k : Nat) : ∀ a b : Nat, a < 256 ^ k → b < 256 ^ k → (less (be k a) (be k b) = true ↔ a < b) := by
  have main : ∀ l m : List Nat, l.length = m.length → (∀ x ∈ l, x < 256) → (∀ x ∈ m, x < 256) → (less l m = true ↔ bev l < bev m) := by
    intro l
    induction l with
    | nil => intro m hl _ _; cases m with | nil => simp [less] | cons => simp at hl
    | cons a l ih =>
      intro m hl h1 h2
      cases m with
      | nil => simp at hl
      | cons b m =>
        have hl' : l.length = m.length := by simpa using hl
        have g1 := bev_lt l (fun x hx => h1 x (by simp [hx]))
        have g2 := bev_lt m (fun x hx => h2 x (by simp [hx]))
        have hi := ih m hl' (fun x hx => h1 x (by simp [hx])) (fun x hx => h2 x (by simp [hx]))
        simp only [less, bev, Bool.or_eq_true, Bool.and_eq_true, decide_eq_true_eq, hi]
        rw [hl'] at g1 ⊢
        rcases Nat.lt_trichotomy a b with h | h | h
        · have : (a + 1) * 256 ^ m.length ≤ b * 256 ^ m.length := Nat.mul_le_mul_right _ h
          rw [Nat.add_mul] at this
          constructor
          · intro _; omega
          · intro _; exact .inl h
        · subst h
          constructor
          · rintro (h | ⟨_, h⟩) <;> omega
          · intro h; exact .inr ⟨rfl, by omega⟩
        · have : (b + 1) * 256 ^ m.length ≤ a * 256 ^ m.length := Nat.mul_le_mul_right _ h
          rw [Nat.add_mul] at this
          constructor
          · rintro (h | ⟨h, _⟩) <;> omega
          · intro h; omega
  intro a b ha hb
  rw [main _ _ (by rw [be_len, be_len]) (be_lt k a) (be_lt k b), bev_be, bev_be, Nat.mod_eq_of_lt ha, Nat.mod_eq_of_lt hb]
end Go.Proofs.Ytlpipngfpcpfbaa.Plain

namespace Go.Proofs.Ytlpipngfpcpfbaa.Q
open Go.RowKit Go.Proofs.YtlpipngfpcpfbaaW.PrintWords Go.Proofs.YtlpipngfpcpfbaaW.PrintLast Go.Proofs.YtlpipngfpcpfbaaW.PrintMore
attribute [local go_sem] max2_int min2_int max_two min_two max_three min_three max_four min_four   -- for this text's walks alone
set_option linter.unusedVariables false
set_option linter.unusedSimpArgs false
/-! ### tenementlaw02_PackHalves: function 3 -/
-- FOREIGN: halves, and what they are together
-- import Derived.Test.YtlpipngfpcpfbaaPlain
open Classical in
noncomputable def tenementlaw02_PackHalves.f (l0 : List Int) (a1 : ByteArray) : Option Bool := if l0.length ≤ 70368744175616 ∧ a1.size ≤ 140737488351232 then some true else none
theorem tenementlaw02_PackHalves.half {n : Nat} (h : n ≤ 140737488351232) : wrap64 (Int.tdiv (wrap64 ((n : Int) + 1)) 2) = ((((n + 1) / 2 : Nat)) : Int) := by
  have e1 : wrap64 ((n : Int) + 1) = ((n + 1 : Nat) : Int) := by unfold wrap64; omega
  rw [e1, Int.tdiv_eq_ediv_of_nonneg (by omega)]
  unfold wrap64
  omega
theorem tenementlaw02_PackHalves.h16 (l : List Int) (h : l.length ≤ 70368744175616) : pack_Halves_int16.f l = some (l.take ((l.length + 1) / 2), l.drop ((l.length + 1) / 2)) := by
  unfold pack_Halves_int16.f
  rw [tenementlaw02_PackHalves.half (by omega), Int.toNat_natCast, if_pos (by omega), if_pos (by omega), if_pos (by rw [List.length_take]; simp; omega), if_pos (by rw [List.length_drop]; simp; omega)]
  rfl
theorem tenementlaw02_PackHalves.h8 (l : List Int) (h : l.length ≤ 140737488351232) : pack_Halves_byte.f l = some (l.take ((l.length + 1) / 2), l.drop ((l.length + 1) / 2)) := by
  unfold pack_Halves_byte.f
  rw [tenementlaw02_PackHalves.half (by omega), Int.toNat_natCast, if_pos (by omega), if_pos (by omega), if_pos (by rw [List.length_take]; simp; omega), if_pos (by rw [List.length_drop]; simp; omega)]
  rfl
theorem tenementlaw02_PackHalves.ex : tenementlaw02_examples.f 60 = some true := by decide +kernel
theorem tenementlaw02_PackHalves.str_bytes (s : ByteArray) (p : Nat) : strOfNums ((bytesOf s).take p) ++ strOfNums ((bytesOf s).drop p) = s := by
  cases s with
  | mk d =>
  unfold strOfNums bytesOf
  refine ByteArray.ext ?_
  rw [ByteArray.data_append]
  apply Array.toList_inj.1
  simp only [Array.toList_append, List.toList_toArray, ← List.map_append, List.take_append_drop, List.map_map]
  conv => rhs; rw [← List.map_id d.toList]
  apply List.map_congr_left
  intro b _
  simp
theorem tenementlaw02_PackHalves.made (w : World) (s : ByteArray) (hs : s.size ≤ 140737488351232) : ∃ (W : World) (c : Nat), (convert 9 27 (.string s)).run Try.prog w = .ok (.slice (some ⟨w.heap.size, 0, none⟩) (bytesOf s).length c) W ∧
    Kd.C (Kd.int .u8) W (some ⟨w.heap.size, 0, none⟩) (bytesOf s).length (bytesOf s) ∧ (bytesOf s).length ≤ c ∧ Below w.heap.size w W := by
  rw [bytesOf_length]
  exact ⟨_, _, Lib.run_convert_string_bytes (P := Try.prog) w 9 27 5 s Try.underlying9 Try.underlying27 Try.underlying5, Kd.C_of_reads (d := (0 : Int)) (bytes_reads w 5 s (by omega)), grownCap_ge _ _ _ _, bytes_below (Below.refl _ _) (Nat.le_refl _) _ _⟩
theorem tenementlaw02_PackHalves.at_I {w : World} {A : Option Addr} {n : Nat} {xs : List Int} (h : Kd.C (Kd.int .i16) w A n xs) (j : Nat) (h1 : j < n) : ∃ ad x, A = some ad ∧ xs[j]? = some x ∧ w.cell? (ad.add j) = some (.int .i16 x) := by
  obtain ⟨ad, e, hc⟩ := Kd.at_int h (j : Int) (by omega) (by omega)
  have hl : j < xs.length := by have := h.1; omega
  refine ⟨ad, rd xs j, e, by rw [List.getElem?_eq_getElem hl]; simp [rd, List.getD_eq_getElem?_getD, hl], ?_⟩
  rw [Int.toNat_natCast] at hc
  exact hc
set_option maxHeartbeats 8000000 in
set_option maxRecDepth 100000 in
theorem tenementlaw02_PackHalves.calls (A0 : Option Addr) (c0 : Nat) (l0 : List Int) (a1 : ByteArray) (r : Bool) (w : World) (hr0 : Kd.C (Kd.int .i16) w A0 l0.length l0) (hc0 : l0.length ≤ c0) (h : tenementlaw02_PackHalves.f l0 a1 = some r) :
    Calls Try.prog 3 #[.slice A0 l0.length c0, .string a1] w fun e w' => e = .returned (.bool r) ∧ Below w.heap.size w w' := by
  unfold tenementlaw02_PackHalves.f at h
  by_cases hw : l0.length ≤ 70368744175616 ∧ a1.size ≤ 140737488351232
  rotate_left
  · rw [if_neg hw] at h; cases h
  rw [if_pos hw] at h
  obtain rfl := Option.some.inj h
  clear h
  have HR := Aside0.mk hr0
  clear hr0
  have HZ := Aside0.mk hw.2
  have H16 := Aside0.mk (tenementlaw02_PackHalves.h16 l0 hw.1)
  have H8 := Aside0.mk (tenementlaw02_PackHalves.h8 (bytesOf a1) (by rw [bytesOf_length]; exact hw.2))
  have HS := Aside0.mk (tenementlaw02_PackHalves.str_bytes a1 (((bytesOf a1).length + 1) / 2))
  obtain ⟨n, hn⟩ : ∃ n, n = l0.length := ⟨_, rfl⟩
  obtain ⟨p, hp⟩ : ∃ p, p = (l0.length + 1) / 2 := ⟨_, rfl⟩
  obtain ⟨q, hq⟩ : ∃ q, q = ((bytesOf a1).length + 1) / 2 := ⟨_, rfl⟩
  rw [← hp] at H16
  rw [← hq] at H8 HS
  rw [bytesOf_length] at hq
  have hla : (l0.take p).length = p := by rw [List.length_take]; omega
  have hlb : (l0.drop p).length = n - p := by rw [List.length_drop, hn]
  have hlx : ((bytesOf a1).take q).length = q := by rw [List.length_take, bytesOf_length]; omega
  have hly : ((bytesOf a1).drop q).length = a1.size - q := by rw [List.length_drop, bytesOf_length]
  have hg : ∀ j, j < p → (l0.take p)[j]? = l0[j]? := fun j hj => List.getElem?_take_of_lt hj
  have hg2 : ∀ j, p ≤ j → (l0.drop p)[j - p]? = l0[j]? := fun j hj => by rw [List.getElem?_drop]; congr 1; omega
  have HG := Aside0.mk hg
  have HG2 := Aside0.mk hg2
  clear hg hg2
  generalize l0.take p = la at *
  generalize l0.drop p = lb at *
  generalize (bytesOf a1).take q = lx at *
  generalize (bytesOf a1).drop q = ly at *
  subst hn
  subst hp
  subst hq
  have hnm : l0.length ≤ 70368744175616 := hw.1
  have hzm := hw.2
  clear hw
  go_enter Try.func3, Try.ntmps3
  go_wp2_with (first
    | (go_at_call 9; (with_reducible refine (tenementlaw02_examples.calls 60 true _ tenementlaw02_PackHalves.ex).mono ?_); rintro e w1 ⟨rfl, hb⟩; have HB := Aside0.mk hb; replace HR := Aside0.mk (Kd.C_below HR.out hb); clear hb)
    | (go_at_call 10; (with_reducible refine (pack_Halves_int16.calls A0 c0 l0 _ _ _ HR.out hc0 H16.out).mono ?_); rintro e w2 ⟨va, vb, rfl, hoa, hob, hb⟩; obtain ⟨Aa, ca, ea, _, hCa⟩ := Kd.R_reads hoa; obtain ⟨Ab, cb, eb, _, hCb⟩ := Kd.R_reads hob; subst ea; subst eb; rw [hla]; rw [hlb]; obtain ⟨W, cs, hcv, hC8, hcs, hbW⟩ := tenementlaw02_PackHalves.made w2 a1 HZ.out; have HLA := Aside0.mk (Kd.C_below hCa hbW); have HLB := Aside0.mk (Kd.C_below hCb hbW); replace HR := Aside0.mk (Kd.C_below (Kd.C_below HR.out hb) hbW); replace HB := Aside0.mk (below_step (below_step HB.out hb) hbW); have HC8 := Aside0.mk hC8; clear hoa hob hb hCa hCb hbW hC8)
    | (go_at_call 11; (with_reducible refine (pack_Halves_byte.calls _ _ (bytesOf a1) _ _ _ HC8.out hcs H8.out).mono ?_); rintro e w3 ⟨vx, vy, rfl, hox, hoy, hb⟩; have kx := own_string (src := 27) (dst := 9) Try.underlying27 Try.underlying5 Try.underlying9 (Kd.own_of_R hox); have ky := own_string (src := 27) (dst := 9) Try.underlying27 Try.underlying5 Try.underlying9 (Kd.own_of_R hoy); obtain ⟨Ax, cx, ex, _, _⟩ := Kd.R_reads hox; obtain ⟨Ay, cy, ey, _, _⟩ := Kd.R_reads hoy; subst ex; subst ey; rw [hlx] at kx ⊢; rw [hly] at ky ⊢; replace HLA := Aside0.mk (Kd.C_below HLA.out hb); replace HLB := Aside0.mk (Kd.C_below HLB.out hb); replace HR := Aside0.mk (Kd.C_below HR.out hb); replace HB := Aside0.mk (below_step HB.out hb); have hcat := HS.out; have hz1 := strOfNums_size lx; have hz2 := strOfNums_size ly; rw [hlx] at hz1; rw [hly] at hz2; have hsm : (strOfNums lx).size + (strOfNums ly).size ≤ 9223372036854775807 := (by omega); clear hox hoy hb HC8 hcv))
  clear hcat hsm hz1 hz2 kx ky HS hlx hly HZ hzm
  go_loopg [10, 11] l0.length (fun kq v10 v11 wr => ∃ (j : Nat), v10 = .int .i64 j ∧ wr = w3 ∧ Aside0 (j ≤ l0.length) ∧ Aside0 (l0.length - j ≤ kq))
  case atStart => exact ⟨0, rfl, rfl, ⟨by omega⟩, ⟨by omega⟩⟩
  case round =>
    obtain ⟨j, rfl, rfl, HJ, HK⟩ := hrel
    by_cases c1 : j < l0.length
    rotate_left
    · have c1b : decide ((j : Int) < (l0.length : Int)) = false := decide_eq_false (by omega)
      go_wp2
      go_ret
      exact ⟨rfl, HB.out⟩
    have c1b : decide ((j : Int) < (l0.length : Int)) = true := decide_eq_true (by omega)
    have c0b : decide (0 ≤ (j : Int)) = true := decide_eq_true (by omega)
    obtain ⟨ad, x, e0, hx, hc⟩ := tenementlaw02_PackHalves.at_I HR.out j c1
    cases e0
    by_cases c2 : j < (l0.length + 1) / 2
    · have c2b : decide ((j : Int) < ((l0.length : Int) + 1) / 2) = true := decide_eq_true (by omega)
      have c2n : (j : Int) < ((l0.length : Int) + 1) / 2 := by omega
      obtain ⟨ad2, y, e1, hy, hc2⟩ := tenementlaw02_PackHalves.at_I HLA.out j (by omega)
      cases e1
      rw [HG.out j c2, hx] at hy
      obtain rfl := Option.some.inj hy
      go_wp2
      go_roundg (l0.length - (j + 1))
      case measure => have := HK.out; omega
      case rel => exact ⟨j + 1, by first | rfl | (congr 1; unfold wrap64; omega), rfl, ⟨by omega⟩, ⟨by omega⟩⟩
    · have c2b : decide ((j : Int) < ((l0.length : Int) + 1) / 2) = false := decide_eq_false (by omega)
      have c2n : ¬ (j : Int) < ((l0.length : Int) + 1) / 2 := by omega
      obtain ⟨ad2, y, e1, hy, hc2⟩ := tenementlaw02_PackHalves.at_I HLB.out (j - (l0.length + 1) / 2) (by omega)
      cases e1
      rw [HG2.out j (by omega), hx] at hy
      obtain rfl := Option.some.inj hy
      have e5 : (j : Int) - ((l0.length : Int) + 1) / 2 = ((j - (l0.length + 1) / 2 : Nat) : Int) := by omega
      have e6 : wrap64 ((j : Int) - ((l0.length : Int) + 1) / 2) = ((j - (l0.length + 1) / 2 : Nat) : Int) := by unfold wrap64; omega
      have e7 : decide (((j - (l0.length + 1) / 2 : Nat) : Int) < ((l0.length - (l0.length + 1) / 2 : Nat) : Int)) = true := decide_eq_true (by omega)
      go_wp2
      go_roundg (l0.length - (j + 1))
      case measure => have := HK.out; omega
      case rel => exact ⟨j + 1, by first | rfl | (congr 1; unfold wrap64; omega), rfl, ⟨by omega⟩, ⟨by omega⟩⟩
end Go.Proofs.Ytlpipngfpcpfbaa.Q

/- What an argument of a law reads as: the kinds of the printed words, opened out of the form's reading, whatever the type: numbers, bools, texts, slices, structs, arrays. No program here. -/
set_option linter.unusedVariables false
set_option linter.unusedSimpArgs false
namespace Go.Proofs.Ytlpipngfpcpfbaa.Open
open Go Go.RowKit Go.Deep Go.WideShapes Go.ChangeShapes Go.Proofs.YtlpipngfpcpfbaaW.PrintWords Go.Proofs.YtlpipngfpcpfbaaW.PrintLast Go.Proofs.YtlpipngfpcpfbaaW.PrintMore

structure To (P : Program) (t : TypeId) {α : Type} (K : Kd α) (wf : α → Prop) : Prop where
  sz : P.cellsOf t = K.sz
  go : ∀ {H : Type} (enc : TypeId × Value → H) (w : World) (fuel : Nat) (cs : List Value) (d : DataW H) (ps : List MemPlace),
    DataW.trod enc P w 0 (fun _ => true) true fuel t cs = some (d, ps) → (DataW.weights P t d).all (· ≤ reachBytes) = true → ∃ x : α, K.K w x cs ∧ wf x

theorem int {P : Program} {t : TypeId} {k : IntKind} (ht : P.underlying t = some (.int k)) (hs : P.cellsOf t = 1) : To P t (Kd.int k) (fun n => (Lit.int k n).wf = true) := by
  refine ⟨hs, fun enc w fuel cs d ps h _ => ?_⟩
  obtain ⟨n, rfl, _, hw⟩ := DataW.trod_int ht h
  exact ⟨n, rfl, hw⟩
theorem bool {P : Program} {t : TypeId} (ht : P.underlying t = some .bool) (hs : P.cellsOf t = 1) : To P t Kd.bool (fun _ => True) := by
  refine ⟨hs, fun enc w fuel cs d ps h _ => ?_⟩
  obtain ⟨b, rfl, _⟩ := DataW.trod_bool ht h
  exact ⟨b, rfl, trivial⟩
theorem string {P : Program} {t : TypeId} (ht : P.underlying t = some .string) (hs : P.cellsOf t = 1) : To P t Kd.string (fun s => s.size ≤ 140737488351232) := by
  refine ⟨hs, fun enc w fuel cs d ps h hw => ?_⟩
  obtain ⟨s, rfl, hx, _⟩ := DataW.trod_string ht h
  obtain ⟨rfl, _⟩ := Prod.mk.inj hx
  refine ⟨s, rfl, ?_⟩
  simp only [DataW.weights, List.all_cons, List.all_nil, Bool.and_true, reachBytes, Array.length_toList] at hw
  exact of_decide_eq_true hw
theorem weightsAll_mem {H : Type} {P : Program} {e : TypeId} : ∀ {l : List (DataW H)} {d : DataW H}, d ∈ l → (DataW.weightsAll P e l).all (· ≤ reachBytes) = true → (DataW.weights P e d).all (· ≤ reachBytes) = true
  | [], _, h, _ => by cases h
  | a :: l, d, h, hw => by
    simp only [DataW.weightsAll, List.all_append, Bool.and_eq_true] at hw
    rcases List.mem_cons.1 h with rfl | h
    · exact hw.1
    · exact weightsAll_mem h hw.2
theorem add_add (a : Addr) (i j : Nat) : (a.add i).add j = a.add (i + j) := by
  unfold Addr.add
  by_cases h1 : i = 0 <;> by_cases h2 : j = 0 <;> simp [h1, h2, Nat.add_assoc]
theorem slice {P : Program} {t e : TypeId} {α : Type} {K : Kd α} {wf : α → Prop} {B : Nat} (ht : P.underlying t = some (.slice e)) (hs : P.cellsOf t = 1) (hB : P.bytesOf e = B) (he : To P e K wf) :
    To P t (Kd.slice e K) (fun l => (∀ x ∈ l, wf x) ∧ l.length * B ≤ 140737488351232) := by
  refine ⟨hs, fun {H} enc w fuel cs d ps h hw => ?_⟩
  rcases open_slice ht h with ⟨rfl, _⟩ | ⟨a, len, cap, m, n, D, Pl, rfl, _, hl, hm, hmc, hx, hel⟩
  · exact ⟨[], ⟨none, 0, rfl, Nat.le_refl _, rfl, by simp, fun h => absurd h (by simp)⟩, by simp, by simp⟩
  · obtain ⟨rfl, _⟩ := Prod.mk.inj hx
    simp only [if_true] at hmc
    subst hmc
    have hw1 := hw
    simp only [DataW.weights, ht, List.all_cons, List.all_append, Bool.and_eq_true, decide_eq_true_eq, List.length_map, List.length_range, hB, reachBytes] at hw1
    have hchoose : ∀ i, i < len → ∃ x : α, (∃ cs', w.cells? 0 (a.add (i * P.cellsOf e)) (P.cellsOf e) = some cs' ∧ K.K w x cs') ∧ wf x := by
      intro i hi
      obtain ⟨cs', h1, h2⟩ := hel i (by omega)
      obtain ⟨x, hx1, hx2⟩ := he.go enc w n cs' (D i) (Pl i) h2 (weightsAll_mem (List.mem_map.2 ⟨i, by simpa using hi, rfl⟩) hw1.2.1)
      exact ⟨x, ⟨cs', h1, hx1⟩, hx2⟩
    have hall : ∀ k, k ≤ len → ∃ l : List α, l.length = k ∧ ∀ i x, l[i]? = some x → (∃ cs', w.cells? 0 (a.add (i * P.cellsOf e)) (P.cellsOf e) = some cs' ∧ K.K w x cs') ∧ wf x := by
      intro k
      induction k with
      | zero => intro _; exact ⟨[], rfl, fun i x h => by simp at h⟩
      | succ k ih =>
        intro hk
        obtain ⟨l, h1, h2⟩ := ih (by omega)
        obtain ⟨x, hx⟩ := hchoose k (by omega)
        refine ⟨l ++ [x], by simp [h1], fun i y hy => ?_⟩
        by_cases hi : i < l.length
        · exact h2 i y (by rwa [List.getElem?_append_left hi] at hy)
        · rw [List.getElem?_append_right (by omega)] at hy
          have : i = l.length := by
            have := (List.getElem?_eq_some_iff.1 hy).1
            simp at this; omega
          subst this
          simp at hy
          subst hy
          rw [h1]; exact hx
    obtain ⟨l, h1, h2⟩ := hall len (Nat.le_refl _)
    refine ⟨l, ⟨some a, m, by rw [h1], by omega, rfl, by unfold maxLen at hm; omega, fun _ => ⟨a, rfl, fun j p hj => ?_⟩⟩, ?_, ?_⟩
    · obtain ⟨⟨cs', g1, g2⟩, _⟩ := h2 j p hj
      obtain ⟨_, g3, g4⟩ := World.cells?_some g1
      refine ⟨cs', by rw [g3, he.sz], g2, fun i u hu => ?_⟩
      have hi : i < P.cellsOf e := by
        have := (List.getElem?_eq_some_iff.1 hu).1
        omega
      rw [← hu, ← g4 i hi, add_add, he.sz]
    · intro x hx
      obtain ⟨i, hi, rfl⟩ := List.getElem_of_mem hx
      exact (h2 i _ (List.getElem?_eq_getElem hi)).2
    · rw [h1]
      refine Nat.le_trans (Nat.mul_le_mul_right _ ?_) (of_decide_eq_true hw1.1)
      omega

/-! ### structs, arrays -/
structure Fs (P : Program) (o : Nat) (fs : List (TypeId × Nat)) {α : Type} (K : Kd α) (wf : α → Prop) : Prop where
  go : ∀ {H : Type} (enc : TypeId × Value → H) (w : World) (n : Nat) (cs : List Value) (xs : List (DataW H × List MemPlace)), cs.length = o + K.sz → xs.length = fs.length →
    (∀ (i : Nat) (f : TypeId × Nat), fs[i]? = some f → DataW.trod enc P w 0 (fun _ => true) true n f.1 ((cs.drop f.2).take (P.cellsOf f.1)) = xs[i]?) →
    (DataW.weightsEach P (fs.map (·.1)) (xs.map (·.1))).all (· ≤ reachBytes) = true → ∃ x : α, K.K w x (cs.drop o) ∧ wf x
theorem one {P : Program} {o : Nat} {t : TypeId} {α : Type} {K : Kd α} {wf : α → Prop} (h : To P t K wf) : Fs P o [(t, o)] K wf := by
  refine ⟨fun enc w n cs xs hl hx hr hw => ?_⟩
  match xs, hx with
  | [x], _ =>
    have h0 := hr 0 _ rfl
    simp only [List.getElem?_cons_zero] at h0
    rw [h.sz, List.take_of_length_le (by simp; omega)] at h0
    simp only [List.map_cons, List.map_nil, DataW.weightsEach, List.append_nil] at hw
    exact h.go enc w n _ x.1 x.2 h0 hw
theorem cons {P : Program} {o : Nat} {t : TypeId} {fs : List (TypeId × Nat)} {α β : Type} {K : Kd α} {wf : α → Prop} {L : Kd β} {wg : β → Prop} (h : To P t K wf) (hs : Fs P (o + K.sz) fs L wg) :
    Fs P o ((t, o) :: fs) (Kd.pair K L) (fun x => wf x.1 ∧ wg x.2) := by
  refine ⟨fun {H} enc w n cs xs hl hx hr hw => ?_⟩
  have hsz : (Kd.pair K L).sz = K.sz + L.sz := rfl
  match xs, hx with
  | x :: xs, hx =>
    have h0 := hr 0 _ rfl
    simp only [List.getElem?_cons_zero] at h0
    rw [h.sz] at h0
    simp only [List.map_cons, DataW.weightsEach, List.all_append, Bool.and_eq_true] at hw
    obtain ⟨a, ha, hwa⟩ := h.go enc w n _ x.1 x.2 h0 hw.1
    obtain ⟨b, hb, hwb⟩ := hs.go enc w n cs xs (by omega) (by simpa using hx) (fun i f hf => by have := hr (i + 1) f (by simpa using hf); simpa using this) hw.2
    refine ⟨(a, b), ⟨_, _, ?_, ha, hb⟩, hwa, hwb⟩
    rw [← List.drop_drop, List.take_append_drop]
theorem struct {P : Program} {t : TypeId} {fs : Array Field} {gs : List (TypeId × Nat)} {α : Type} {K : Kd α} {wf : α → Prop} (ht : P.underlying t = some (.struct fs)) (hg : fs.toList.map (fun f => (f.type, f.offset)) = gs) (hs : P.cellsOf t = K.sz) (h : Fs P 0 gs K wf) : To P t K wf := by
  refine ⟨hs, fun {H} enc w fuel cs d ps hr hw => ?_⟩
  obtain ⟨xs, n, _, hx, hl, hxl, hel⟩ := DataW.trod_struct ht hr
  obtain ⟨rfl, _⟩ := Prod.mk.inj hx
  have := h.go enc w n cs xs (by omega) (by rw [← hg]; simpa using hxl) (fun i f hf => ?_) ?_
  · simpa using this
  · rw [← hg] at hf
    simp only [List.getElem?_map, Option.map_eq_some_iff] at hf
    obtain ⟨g, hg1, rfl⟩ := hf
    exact hel i g (by simpa using hg1)
  · rw [← hg]
    simp only [DataW.weights, ht] at hw
    simpa [List.map_map, Function.comp_def] using hw
theorem weightsAll_each {H : Type} (P : Program) (e : TypeId) : ∀ (l : List (DataW H)) (ts : List TypeId), ts.length = l.length → (∀ t ∈ ts, t = e) → DataW.weightsEach P ts l = DataW.weightsAll P e l
  | [], [], _, _ => rfl
  | [], _ :: _, h, _ => by simp at h
  | _ :: _, [], h, _ => by simp at h
  | d :: l, t :: ts, h, ht => by
    simp only [DataW.weightsEach, DataW.weightsAll]
    rw [ht t (by simp), weightsAll_each P e l ts (by simpa using h) (fun x hx => ht x (by simp [hx]))]
theorem array {P : Program} {t e : TypeId} {n s : Nat} {α : Type} {K : Kd α} {wf : α → Prop} (ht : P.underlying t = some (.array n e)) (he : P.cellsOf e = s) (hs : P.cellsOf t = K.sz) (h : Fs P 0 ((List.range n).map fun i => (e, i * s)) K wf) : To P t K wf := by
  refine ⟨hs, fun {H} enc w fuel cs d ps hr hw => ?_⟩
  obtain ⟨xs, m, _, hx, hl, hxl, hel⟩ := DataW.trod_array ht hr
  obtain ⟨rfl, _⟩ := Prod.mk.inj hx
  have := h.go enc w m cs xs (by omega) (by simpa using hxl) (fun i f hf => ?_) ?_
  · simpa using this
  · simp only [List.getElem?_map, Option.map_eq_some_iff] at hf
    obtain ⟨g, hg1, rfl⟩ := hf
    have hi : i < n := by have := (List.getElem?_eq_some_iff.1 hg1).1; simpa using this
    have hgi : g = i := by
      have := (List.getElem?_eq_some_iff.1 hg1).2
      simpa using this.symm
    subst hgi
    have := hel g hi
    rw [he] at this ⊢
    exact this
  · simp only [DataW.weights, ht] at hw
    rw [weightsAll_each P e _ _ (by simp [hxl]) (by simp)]
    exact hw
theorem iso {P : Program} {t : TypeId} {α β : Type} {K : Kd α} {wf : α → Prop} (f : β → α) (g : α → β) (hfg : ∀ a, f (g a) = a) (h : To P t K wf) : To P t (Kd.iso K f) (fun b => wf (f b)) := by
  refine ⟨h.sz, fun {H} enc w fuel cs d ps hr hw => ?_⟩
  obtain ⟨x, h1, h2⟩ := h.go enc w fuel cs d ps hr hw
  refine ⟨g x, ?_, ?_⟩
  · show K.K w (f (g x)) cs
    rw [hfg]; exact h1
  · rw [hfg]; exact h2
theorem imp {P : Program} {t : TypeId} {α : Type} {K : Kd α} {wf wf' : α → Prop} (h : To P t K wf) (hi : ∀ x, wf x → wf' x) : To P t K wf' :=
  ⟨h.sz, fun enc w fuel cs d ps hr hw => by
    obtain ⟨x, h1, h2⟩ := h.go enc w fuel cs d ps hr hw
    exact ⟨x, h1, hi x h2⟩⟩
/-- At a parameter. -/
theorem at_param {P : Program} {t : TypeId} {α : Type} {K : Kd α} {wf : α → Prop} (h : To P t K wf) {H : Type} {enc : TypeId × Value → H} {w : World} {v : Value} {d : DataW H} {ps : List MemPlace} {ts : List TypeId} {ds : List (DataW H)} {j : Nat}
    (hsz : (DataW.weightsEach P ts ds).all (· ≤ reachBytes) = true) (ht : ts[j]? = some t) (hd : ds[j]? = some d) (hr : DataW.Trod enc P w 0 (fun _ => true) true t v d ps) : ∃ x : α, K.K w x v.cells.toList ∧ wf x := by
  obtain ⟨fuel, hf⟩ := hr
  refine h.go enc w fuel _ d ps hf ?_
  rw [List.all_eq_true]
  intro x hx
  exact List.all_eq_true.1 hsz x (DataW.weights_mem_each ht hd x hx)
theorem okWide_array {P : Program} {w : World} {r : Reach} {base : Nat} {t : TypeId} {v : Value} {n : Nat} {e : TypeId} (ht : P.underlying t = some (.array n e)) (h : Value.okWide P w r base t v) : ∃ cs, v = .agg cs := by
  simp only [Value.okWide, ht] at h
  obtain ⟨cs, h1, _⟩ := h
  exact ⟨cs, h1⟩
end Go.Proofs.Ytlpipngfpcpfbaa.Open

set_option linter.unusedVariables false
namespace Go.Proofs.Ytlpipngfpcpfbaa.Q
open Go.RowKit Go.Proofs.Ytlpipngfpcpfbaa.Q Go.Proofs.YtlpipngfpcpfbaaW.PrintWords Go.Proofs.YtlpipngfpcpfbaaW.PrintLast Go.Proofs.YtlpipngfpcpfbaaW.PrintMore
open Go.Proofs.Ytlpipngfpcpfbaa
def wf35 (x : S35) : Prop := (x.f0.size ≤ 140737488351232) ∧ (True)
theorem to35 : Open.To Try.prog 35 k35 wf35 := Open.imp (Open.iso (fun x : S35 => (x.f0, x.f1)) (fun y => (⟨y.1, y.2⟩ : S35)) (fun _ => rfl) (Open.struct Try.underlying35 (by rfl) (by kernel_rfl) (show Open.Fs Try.prog 0 [(9, 0), (4, 1)] _ _ from (Open.cons (Open.string Try.underlying9 (by kernel_rfl)) (Open.one (Open.bool Try.underlying4 (by kernel_rfl))))))) (fun _ h => h)
def wf43 (x : S43) : Prop := ((Lit.int .u8 x.f0).wf = true) ∧ ((Lit.int .i64 x.f1).wf = true)
theorem to43 : Open.To Try.prog 43 k43 wf43 := Open.imp (Open.iso (fun x : S43 => (x.f0, x.f1)) (fun y => (⟨y.1, y.2⟩ : S43)) (fun _ => rfl) (Open.struct Try.underlying43 (by rfl) (by kernel_rfl) (show Open.Fs Try.prog 0 [(5, 0), (3, 1)] _ _ from (Open.cons (Open.int Try.underlying5 (by kernel_rfl)) (Open.one (Open.int Try.underlying3 (by kernel_rfl))))))) (fun _ h => h)
end Go.Proofs.Ytlpipngfpcpfbaa.Q

set_option linter.unusedVariables false
namespace Go.Proofs.Ytlpipngfpcpfbaa.Q
open Go.RowKit Go.Proofs.Ytlpipngfpcpfbaa.Q Go.Proofs.YtlpipngfpcpfbaaW.PrintWords Go.Proofs.YtlpipngfpcpfbaaW.PrintLast Go.Proofs.YtlpipngfpcpfbaaW.PrintMore
def tenementlaw02_PackHalves.Pure : Prop := ∀ (x0 : List Int) (x1 : ByteArray), ((∀ x_ ∈ x0, (Lit.int .i16 x_).wf = true) ∧ x0.length * 2 ≤ 140737488351232) → (x1.size ≤ 140737488351232) → tenementlaw02_PackHalves.f x0 x1 = some true
end Go.Proofs.Ytlpipngfpcpfbaa.Q

/- The halves of a list are together the list; of a text's bytes likewise. -/
set_option linter.unusedVariables false
set_option linter.unusedSimpArgs false
namespace Go.Proofs.Ytlpipngfpcpfbaa.Pure
open Go.RowKit Go.Proofs.Ytlpipngfpcpfbaa.Q Go.Proofs.YtlpipngfpcpfbaaW.PrintWords Go.Proofs.YtlpipngfpcpfbaaW.PrintLast Go.Proofs.YtlpipngfpcpfbaaW.PrintMore
theorem PackHalves : tenementlaw02_PackHalves.Pure := by
  intro l s hl hs
  unfold tenementlaw02_PackHalves.f
  rw [if_pos ⟨by have := hl.2; omega, hs⟩]
end Go.Proofs.Ytlpipngfpcpfbaa.Pure
