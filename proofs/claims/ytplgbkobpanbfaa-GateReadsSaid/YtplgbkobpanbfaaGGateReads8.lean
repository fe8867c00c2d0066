import Derived.Test.YtplgbkobpanbfaaQx0
import Derived.Test.YtplgbkobpanbfaaGGateReads3
-- Written by this session's own driver (wip/hybrid.py) of the kit's printer; contracts marked FOREIGN are by hand.
namespace Go.Proofs.Ytplgbkobpanbfaa.Q
open Go.RowKit Go.Proofs.YtplgbkobpanbfaaW.PrintWords Go.Proofs.YtplgbkobpanbfaaW.PrintLast Go.Proofs.YtplgbkobpanbfaaW.PrintMore
attribute [local go_sem] max2_int min2_int max_two min_two max_three min_three max_four min_four   -- for this text's walks alone
set_option linter.unusedVariables false
set_option linter.unusedSimpArgs false

/-! ### tenementref19_Answer: function 18 -/
def tenementref19_Answer.f (k : Nat) (a0_0 : Int) (a0_1 : ByteArray) (a0_2 : Bool) (a0_3 : Int) (a0_4 : Int) (a0_5 : Int) (a0_6 : Int) : Option (ByteArray) := if a0_2 = true then ((some (([(a0_0) % 256, 1] : List Int) : List Int)).bind fun y241 => ((tenementref02_Text.f k a0_1).bind fun t244 => (if (strOfNums y241).size + t244.size ≤ 9223372036854775807 then ((tenementref06_Put.f k a0_3 a0_4 a0_5 a0_6).bind fun t245 => (if ((strOfNums y241) ++ t244).size + t245.size ≤ 9223372036854775807 then (some (((strOfNums y241) ++ t244) ++ t245)) else (none))) else (none)))) else ((some (([(a0_0) % 256, 0] : List Int) : List Int)).bind fun y246 => ((tenementref02_Text.f k a0_1).bind fun t249 => (if (strOfNums y246).size + t249.size ≤ 9223372036854775807 then ((tenementref06_Put.f k a0_3 a0_4 a0_5 a0_6).bind fun t250 => (if ((strOfNums y246) ++ t249).size + t250.size ≤ 9223372036854775807 then (some (((strOfNums y246) ++ t249) ++ t250)) else (none))) else (none))))
theorem tenementref19_Answer.mono : ∀ a0 a1 a2 a3 a4 a5 a6 k, LeO (tenementref19_Answer.f k a0 a1 a2 a3 a4 a5 a6) (tenementref19_Answer.f (k + 1) a0 a1 a2 a3 a4 a5 a6) := by
  intro a0 a1 a2 a3 a4 a5 a6 k
  unfold tenementref19_Answer.f
  repeat' first
      | (with_reducible exact tenementref02_Text.mono _ _)
      | (with_reducible exact tenementref06_Put.mono _ _ _ _ _)
      | (with_reducible exact LeO.refl _)
      | (with_reducible exact LeO.none _)
      | (with_reducible refine LeO.ite ?_ ?_)
      | (with_reducible refine LeO.bind ?_ (fun _ => ?_))
      | exact tenementref02_Text.mono _ _
      | exact tenementref06_Put.mono _ _ _ _ _
      | exact LeO.none _
      | refine LeO.ite ?_ ?_
      | refine LeO.bind ?_ (fun _ => ?_)
def tenementref19_Answer.T4 : Bool × List (List Nat × List Nat) := (true, [([], []), ([0], [0]), ([1], [1]), ([], []), ([2, 3], [2, 3]), ([4], [4]), ([], []), ([6], [6]), ([7], [7]), ([5, 8], [5, 8]), ([], []), ([10], [10]), ([11, 8], [11]), ([9, 12], [9, 12]), ([13, 12, 0, 1, 2, 3, 4, 5, 6, 7, 8, 9, 10, 11, 12, 13], [13])])
def tenementref19_Answer.B4 : List Nat := [0, 1, 3, 0, 15, 31, 0, 64, 192, 511, 0, 1024, 3520, 8191, 16383]
theorem tenementref19_Answer.tab4 : rtab .any (opsOf Try.f18 4) = tenementref19_Answer.T4 := by kernel_rfl
theorem tenementref19_Answer.bits4 : waitsOk tenementref19_Answer.T4.2 tenementref19_Answer.B4 = true := by kernel_rfl
set_option maxHeartbeats 8000000 in
set_option maxRecDepth 100000 in
theorem tenementref19_Answer.calls (k : Nat) (a0_0 : Int) (a0_1 : ByteArray) (a0_2 : Bool) (a0_3 : Int) (a0_4 : Int) (a0_5 : Int) (a0_6 : Int) (r : ByteArray) (w : World) (h : tenementref19_Answer.f k a0_0 a0_1 a0_2 a0_3 a0_4 a0_5 a0_6 = some r) :
    Calls Try.prog 18 #[.agg #[.int .i64 a0_0, .string a0_1, .bool a0_2, .int .u64 a0_3, .int .u64 a0_4, .int .u64 a0_5, .int .u64 a0_6]] w fun e w' => e = .returned (.string r) ∧ Below w.heap.size w w' := by
  have hu48 := Try.underlying48
  have hu46 := Try.underlying46
  have HB := Aside0.mk (Below.refl w.heap.size w)
  have H : (if a0_2 = true then ((some (([(a0_0) % 256, 1] : List Int) : List Int)).bind fun y241 => ((tenementref02_Text.f k a0_1).bind fun t244 => (if (strOfNums y241).size + t244.size ≤ 9223372036854775807 then ((tenementref06_Put.f k a0_3 a0_4 a0_5 a0_6).bind fun t245 => (if ((strOfNums y241) ++ t244).size + t245.size ≤ 9223372036854775807 then (some (((strOfNums y241) ++ t244) ++ t245)) else (none))) else (none)))) else ((some (([(a0_0) % 256, 0] : List Int) : List Int)).bind fun y246 => ((tenementref02_Text.f k a0_1).bind fun t249 => (if (strOfNums y246).size + t249.size ≤ 9223372036854775807 then ((tenementref06_Put.f k a0_3 a0_4 a0_5 a0_6).bind fun t250 => (if ((strOfNums y246) ++ t249).size + t250.size ≤ 9223372036854775807 then (some (((strOfNums y246) ++ t249) ++ t250)) else (none))) else (none))))) = some r := h
  (try (have Hs_ := H; simp only [ByteArray.size_append, Int.natCast_add] at Hs_))
  clear h
  by_cases c2 : a0_2 = true
  · subst c2
    have H1 : ((some (([(a0_0) % 256, 1] : List Int) : List Int)).bind fun y241 => ((tenementref02_Text.f k a0_1).bind fun t244 => (if (strOfNums y241).size + t244.size ≤ 9223372036854775807 then ((tenementref06_Put.f k a0_3 a0_4 a0_5 a0_6).bind fun t245 => (if ((strOfNums y241) ++ t244).size + t245.size ≤ 9223372036854775807 then (some (((strOfNums y241) ++ t244) ++ t245)) else (none))) else (none)))) = some r := by rw [if_pos rfl] at H; exact H
    clear H
    have H := H1
    clear H1
    obtain ⟨y241, hy241⟩ : ∃ y_ : List Int, y_ = (([(a0_0) % 256, 1] : List Int)) := ⟨_, rfl⟩
    replace H : ((tenementref02_Text.f k a0_1).bind fun t244 => (if (strOfNums y241).size + t244.size ≤ 9223372036854775807 then ((tenementref06_Put.f k a0_3 a0_4 a0_5 a0_6).bind fun t245 => (if ((strOfNums y241) ++ t244).size + t245.size ≤ 9223372036854775807 then (some (((strOfNums y241) ++ t244) ++ t245)) else (none))) else (none))) = some r := by first | (rw [hy241]; with_reducible exact H) | (have H2_ := (Option.bind_some _ _).symm.trans H; rw [hy241]; with_reducible exact H2_) | (have H2_ := (Option.bind_some _ _).symm.trans H; with_reducible exact H2_) | with_reducible exact H | (rw [hy241]; exact H) | exact H
    have Ny241 := Aside0.mk hy241
    clear hy241
    replace H := Option.bind_eq_some_iff.mp H
    obtain ⟨t244, A30, H⟩ := H
    replace H : (if (strOfNums y241).size + t244.size ≤ 9223372036854775807 then ((tenementref06_Put.f k a0_3 a0_4 a0_5 a0_6).bind fun t245 => (if ((strOfNums y241) ++ t244).size + t245.size ≤ 9223372036854775807 then (some (((strOfNums y241) ++ t244) ++ t245)) else (none))) else (none)) = some r := H
    have A3 := Aside0.mk A30
    clear A30
    by_cases c4 : (strOfNums y241).size + t244.size ≤ 9223372036854775807
    rotate_left
    · rw [if_neg c4] at H
      exact absurd H (by simp)
    rw [if_pos c4] at H
    have c4b0 := eq_true c4
    have c4b1 : decide ((strOfNums y241).size + t244.size ≤ 9223372036854775807) = true := decide_eq_true c4
    try have c4b2 : (9223372036854775807 < (strOfNums y241).size + t244.size) = False := eq_false (Nat.not_lt.2 c4)
    replace H := Option.bind_eq_some_iff.mp H
    obtain ⟨t245, A50, H⟩ := H
    replace H : (if ((strOfNums y241) ++ t244).size + t245.size ≤ 9223372036854775807 then (some (((strOfNums y241) ++ t244) ++ t245)) else (none)) = some r := H
    have A5 := Aside0.mk A50
    clear A50
    by_cases c6 : ((strOfNums y241) ++ t244).size + t245.size ≤ 9223372036854775807
    rotate_left
    · rw [if_neg c6] at H
      exact absurd H (by simp)
    rw [if_pos c6] at H
    have c6b0 := eq_true c6
    (try (have c6b0s_ := c6b0; simp only [ByteArray.size_append, Int.natCast_add] at c6b0s_))
    have c6b1 : decide (((strOfNums y241) ++ t244).size + t245.size ≤ 9223372036854775807) = true := decide_eq_true c6
    (try (have c6b1s_ := c6b1; simp only [ByteArray.size_append, Int.natCast_add] at c6b1s_))
    try have c6b2 : (9223372036854775807 < ((strOfNums y241) ++ t244).size + t245.size) = False := eq_false (Nat.not_lt.2 c6)
    (try (have c6b2s_ := c6b2; simp only [ByteArray.size_append, Int.natCast_add] at c6b2s_))
    obtain rfl := Option.some.inj H
    go_enter Try.func18, Try.ntmps18
    try go_wp2_with (first | ((with_reducible refine gate_dst (N := 1) rfl ?_); refine box_event ?hg (N := 1) ?hd (cs := #[.int .i64 a0_0, .string a0_1, .bool true, .int .u64 a0_3, .int .u64 a0_4, .int .u64 a0_5, .int .u64 a0_6]) (t := 48) ?hr ?_; (case hd => rfl); (case hg => rfl); (case hr => first | (go_simp; done) | (go_simp; rfl)); intro gb240 hg w7 hbox hb; have BK240 := Aside0.mk (hbox); have GW240 := Kw_ HB hg; have GE240 := GW240; replace HB := Ks_ HB hb; clear hb hbox hg; obtain ⟨hcz8_0, hcz8_1, hcz8_2, hcz8_3, hcz8_4, hcz8_5, hcz8_6, hfz8_0, hfz8_1, hfz8_2, hfz8_3, hfz8_4, hfz8_5, hfz8_6⟩ := Ke7_ BK240.out))
    replace BK240 := Kd_ BK240
    replace HB := Aside0.mk (below_drew1 HB.out)
    refine start_ (n := 15) (S := fun w' => w'.cell? ⟨gb240, 0, none⟩ = some (.int .i64 a0_0) ∧ w'.cell? ⟨gb240, 1, none⟩ = some (.string a0_1) ∧ w'.cell? ⟨gb240, 2, none⟩ = some (.bool true) ∧ w'.cell? ⟨gb240, 3, none⟩ = some (.int .u64 a0_3) ∧ w'.cell? ⟨gb240, 4, none⟩ = some (.int .u64 a0_4) ∧ w'.cell? ⟨gb240, 5, none⟩ = some (.int .u64 a0_5) ∧ w'.cell? ⟨gb240, 6, none⟩ = some (.int .u64 a0_6)) (ds := []) #[false, false, false, false, false, false, false, false, false, false, false, false, false, false, false] (by kernel_rfl) rfl rfl (Kc7_ BK240.out) (fun hHeld => ?_); refine with_tabW tenementref19_Answer.tab4 tenementref19_Answer.bits4 (fun HT_ HW_ => ?_)
    generalize w7.drew = w9 at BK240 HB hHeld ⊢
    refine pure_ (i := 0) (N := some 6) (v := ?_) (a' := ?_) #[true, false, false, false, false, false, false, false, false, false, false, false, false, false, false] rfl rfl (any_of HT_.out (by kernel_rfl)) (fun _ _ _ h => h) (Or.inl ⟨by rfl, ?_⟩) ?_ ?_
    rotate_left
    · intro w'
      go_simp
      with_reducible rfl
    rotate_left
    · simp only [Act.put, List.setIfInBounds_toArray, List.set_cons_zero, List.set_cons_succ, i64_w, i32_w]
      rfl
    refine pure_ (i := 3) (N := some 9) (v := ?_) (a' := ?_) #[true, false, false, true, false, false, false, false, false, false, false, false, false, false, false] rfl rfl (any_of HT_.out (by kernel_rfl)) (fun _ _ _ h => h) (Or.inl ⟨by rfl, ?_⟩) ?_ ?_
    rotate_left
    · intro w'
      go_simp
      with_reducible rfl
    rotate_left
    · simp only [Act.put, List.setIfInBounds_toArray, List.set_cons_zero, List.set_cons_succ, i64_w, i32_w]
      rfl
    refine pure_ (i := 6) (N := some 12) (v := ?_) (a' := ?_) #[true, false, false, true, false, false, true, false, false, false, false, false, false, false, false] rfl rfl (any_of HT_.out (by kernel_rfl)) (fun _ _ _ h => h) (Or.inl ⟨by rfl, ?_⟩) ?_ ?_
    rotate_left
    · intro w'
      go_simp
      with_reducible rfl
    rotate_left
    · simp only [Act.put, List.setIfInBounds_toArray, List.set_cons_zero, List.set_cons_succ, i64_w, i32_w]
      rfl
    refine pure_ (i := 10) (N := some 16) (v := ?_) (a' := ?_) #[true, false, false, true, false, false, true, false, false, false, true, false, false, false, false] rfl rfl (any_of HT_.out (by kernel_rfl)) (fun _ _ _ h => h) (Or.inl ⟨by rfl, ?_⟩) ?_ ?_
    rotate_left
    · intro w'
      go_simp
      with_reducible rfl
    rotate_left
    · simp only [Act.put, List.setIfInBounds_toArray, List.set_cons_zero, List.set_cons_succ, i64_w, i32_w]
      rfl
    refine take_ (i := 1) (N := some 7) (v := ?_) (a' := ?_) #[true, true, false, true, false, false, true, false, false, false, true, false, false, false, false] rfl rfl (take_ofW HT_.out HW_.out (by kernel_rfl)) (fun _ _ _ h => h) (Or.inl ⟨by rfl, ?_⟩) hHeld ?_ ?_
    rotate_left
    · rintro w' ⟨s0, s1, s2, s3, s4, s5, s6⟩
      go_simp
      with_reducible rfl
    rotate_left
    · simp only [Act.put, List.setIfInBounds_toArray, List.set_cons_zero, List.set_cons_succ, i64_w, i32_w]
      rfl
    refine pure_ (i := 2) (N := some 8) (v := ?_) (a' := ?_) #[true, true, true, true, false, false, true, false, false, false, true, false, false, false, false] rfl rfl (any_of HT_.out (by kernel_rfl)) (fun _ _ _ h => h) (Or.inl ⟨by rfl, ?_⟩) ?_ ?_
    rotate_left
    · intro w'
      go_simp
      with_reducible rfl
    rotate_left
    · simp only [Act.put, List.setIfInBounds_toArray, List.set_cons_zero, List.set_cons_succ, i64_w, i32_w]
      rfl
    refine take_ (i := 7) (N := some 13) (v := ?_) (a' := ?_) #[true, true, true, true, false, false, true, true, false, false, true, false, false, false, false] rfl rfl (take_ofW HT_.out HW_.out (by kernel_rfl)) (fun _ _ _ h => h) (Or.inl ⟨by rfl, ?_⟩) hHeld ?_ ?_
    rotate_left
    · rintro w' ⟨s0, s1, s2, s3, s4, s5, s6⟩
      go_simp
      with_reducible rfl
    rotate_left
    · simp only [Act.put, List.setIfInBounds_toArray, List.set_cons_zero, List.set_cons_succ, i64_w, i32_w]
      rfl
    refine take_ (i := 11) (N := some 17) (v := ?_) (a' := ?_) #[true, true, true, true, false, false, true, true, false, false, true, true, false, false, false] rfl rfl (take_ofW HT_.out HW_.out (by kernel_rfl)) (fun _ _ _ h => h) (Or.inl ⟨by rfl, ?_⟩) hHeld ?_ ?_
    rotate_left
    · rintro w' ⟨s0, s1, s2, s3, s4, s5, s6⟩
      go_simp
      with_reducible rfl
    rotate_left
    · simp only [Act.put, List.setIfInBounds_toArray, List.set_cons_zero, List.set_cons_succ, i64_w, i32_w]
      rfl
    refine join_ (σ := Value) 2 #[true, true, true, true, true, true, true, true, true, true, true, true, true, false, false] (fun s_ => [(10, s_), (11, .string (strOfNums y241)), (14, .string t244), (18, .string t245), (15, .string ((strOfNums y241) ++ t244))]) (fun s_ w' => (w'.cell? ⟨gb240, 0, none⟩ = some (.int .i64 a0_0) ∧ w'.cell? ⟨gb240, 1, none⟩ = some (.string a0_1) ∧ w'.cell? ⟨gb240, 2, none⟩ = some (.bool true) ∧ w'.cell? ⟨gb240, 3, none⟩ = some (.int .u64 a0_3) ∧ w'.cell? ⟨gb240, 4, none⟩ = some (.int .u64 a0_4) ∧ w'.cell? ⟨gb240, 5, none⟩ = some (.int .u64 a0_5) ∧ w'.cell? ⟨gb240, 6, none⟩ = some (.int .u64 a0_6)) ∧ (Kd.R (Kd.int .u8) 5 w' w.heap.size (fun _ => True) s_ y241) ∧ (w'.heap[gb240]? = some (.cells #[.int .i64 a0_0, .string a0_1, .bool true, .int .u64 a0_3, .int .u64 a0_4, .int .u64 a0_5, .int .u64 a0_6] 48 (0, 0))) ∧ (Below w.heap.size w w')) ?_ ?_
    rotate_left
    · intro hJ4_5_8_12
      refine join_ (σ := Value) 3 #[true, true, true, true, true, true, true, true, true, true, true, true, false, false, false] (fun s_ => [(10, s_), (11, .string (strOfNums y241)), (14, .string t244), (15, .string ((strOfNums y241) ++ t244))]) (fun s_ w' => (w'.cell? ⟨gb240, 0, none⟩ = some (.int .i64 a0_0) ∧ w'.cell? ⟨gb240, 1, none⟩ = some (.string a0_1) ∧ w'.cell? ⟨gb240, 2, none⟩ = some (.bool true) ∧ w'.cell? ⟨gb240, 3, none⟩ = some (.int .u64 a0_3) ∧ w'.cell? ⟨gb240, 4, none⟩ = some (.int .u64 a0_4) ∧ w'.cell? ⟨gb240, 5, none⟩ = some (.int .u64 a0_5) ∧ w'.cell? ⟨gb240, 6, none⟩ = some (.int .u64 a0_6)) ∧ (Kd.R (Kd.int .u8) 5 w' w.heap.size (fun _ => True) s_ y241) ∧ (w'.heap[gb240]? = some (.cells #[.int .i64 a0_0, .string a0_1, .bool true, .int .u64 a0_3, .int .u64 a0_4, .int .u64 a0_5, .int .u64 a0_6] 48 (0, 0))) ∧ (Below w.heap.size w w')) ?_ ?_
      rotate_left
      · intro hJ4_5_8
        refine join_ (σ := Value) 4 #[true, true, true, true, true, false, true, true, true, false, true, true, true, false, false] (fun s_ => [(10, s_), (14, .string t244), (18, .string t245)]) (fun s_ w' => (w'.cell? ⟨gb240, 0, none⟩ = some (.int .i64 a0_0) ∧ w'.cell? ⟨gb240, 1, none⟩ = some (.string a0_1) ∧ w'.cell? ⟨gb240, 2, none⟩ = some (.bool true) ∧ w'.cell? ⟨gb240, 3, none⟩ = some (.int .u64 a0_3) ∧ w'.cell? ⟨gb240, 4, none⟩ = some (.int .u64 a0_4) ∧ w'.cell? ⟨gb240, 5, none⟩ = some (.int .u64 a0_5) ∧ w'.cell? ⟨gb240, 6, none⟩ = some (.int .u64 a0_6)) ∧ (Kd.R (Kd.int .u8) 5 w' w.heap.size (fun _ => True) s_ y241) ∧ (w'.heap[gb240]? = some (.cells #[.int .i64 a0_0, .string a0_1, .bool true, .int .u64 a0_3, .int .u64 a0_4, .int .u64 a0_5, .int .u64 a0_6] 48 (0, 0))) ∧ (Below w.heap.size w w')) ?_ ?_
        rotate_left
        · intro hJ4_8_12
          refine join_ (σ := Value) 5 #[true, true, true, true, true, true, true, true, false, false, true, true, false, false, false] (fun s_ => [(10, s_), (11, .string (strOfNums y241))]) (fun s_ w' => (w'.cell? ⟨gb240, 0, none⟩ = some (.int .i64 a0_0) ∧ w'.cell? ⟨gb240, 1, none⟩ = some (.string a0_1) ∧ w'.cell? ⟨gb240, 2, none⟩ = some (.bool true) ∧ w'.cell? ⟨gb240, 3, none⟩ = some (.int .u64 a0_3) ∧ w'.cell? ⟨gb240, 4, none⟩ = some (.int .u64 a0_4) ∧ w'.cell? ⟨gb240, 5, none⟩ = some (.int .u64 a0_5) ∧ w'.cell? ⟨gb240, 6, none⟩ = some (.int .u64 a0_6)) ∧ (Kd.R (Kd.int .u8) 5 w' w.heap.size (fun _ => True) s_ y241) ∧ (w'.heap[gb240]? = some (.cells #[.int .i64 a0_0, .string a0_1, .bool true, .int .u64 a0_3, .int .u64 a0_4, .int .u64 a0_5, .int .u64 a0_6] 48 (0, 0))) ∧ (Below w.heap.size w w')) ?_ ?_
          rotate_left
          · intro hJ4_5
            refine join_ (σ := Value) 5 #[true, true, true, true, true, false, true, true, true, false, true, true, false, false, false] (fun s_ => [(10, s_), (14, .string t244)]) (fun s_ w' => (w'.cell? ⟨gb240, 0, none⟩ = some (.int .i64 a0_0) ∧ w'.cell? ⟨gb240, 1, none⟩ = some (.string a0_1) ∧ w'.cell? ⟨gb240, 2, none⟩ = some (.bool true) ∧ w'.cell? ⟨gb240, 3, none⟩ = some (.int .u64 a0_3) ∧ w'.cell? ⟨gb240, 4, none⟩ = some (.int .u64 a0_4) ∧ w'.cell? ⟨gb240, 5, none⟩ = some (.int .u64 a0_5) ∧ w'.cell? ⟨gb240, 6, none⟩ = some (.int .u64 a0_6)) ∧ (Kd.R (Kd.int .u8) 5 w' w.heap.size (fun _ => True) s_ y241) ∧ (w'.heap[gb240]? = some (.cells #[.int .i64 a0_0, .string a0_1, .bool true, .int .u64 a0_3, .int .u64 a0_4, .int .u64 a0_5, .int .u64 a0_6] 48 (0, 0))) ∧ (Below w.heap.size w w')) ?_ ?_
            rotate_left
            · intro hJ4_8
              refine join_ (σ := Unit) 5 #[true, true, true, true, false, false, true, true, true, false, true, true, true, false, false] (fun s_ => [(14, .string t244), (18, .string t245)]) (fun s_ w' => (w'.cell? ⟨gb240, 0, none⟩ = some (.int .i64 a0_0) ∧ w'.cell? ⟨gb240, 1, none⟩ = some (.string a0_1) ∧ w'.cell? ⟨gb240, 2, none⟩ = some (.bool true) ∧ w'.cell? ⟨gb240, 3, none⟩ = some (.int .u64 a0_3) ∧ w'.cell? ⟨gb240, 4, none⟩ = some (.int .u64 a0_4) ∧ w'.cell? ⟨gb240, 5, none⟩ = some (.int .u64 a0_5) ∧ w'.cell? ⟨gb240, 6, none⟩ = some (.int .u64 a0_6)) ∧ (w'.heap[gb240]? = some (.cells #[.int .i64 a0_0, .string a0_1, .bool true, .int .u64 a0_3, .int .u64 a0_4, .int .u64 a0_5, .int .u64 a0_6] 48 (0, 0))) ∧ (Below w.heap.size w w')) ?_ ?_
              rotate_left
              · intro hJ8_12
                refine join_ (σ := Value) 6 #[true, true, true, true, true, false, true, true, false, false, true, true, false, false, false] (fun s_ => [(10, s_)]) (fun s_ w' => (w'.cell? ⟨gb240, 0, none⟩ = some (.int .i64 a0_0) ∧ w'.cell? ⟨gb240, 1, none⟩ = some (.string a0_1) ∧ w'.cell? ⟨gb240, 2, none⟩ = some (.bool true) ∧ w'.cell? ⟨gb240, 3, none⟩ = some (.int .u64 a0_3) ∧ w'.cell? ⟨gb240, 4, none⟩ = some (.int .u64 a0_4) ∧ w'.cell? ⟨gb240, 5, none⟩ = some (.int .u64 a0_5) ∧ w'.cell? ⟨gb240, 6, none⟩ = some (.int .u64 a0_6)) ∧ (Kd.R (Kd.int .u8) 5 w' w.heap.size (fun _ => True) s_ y241) ∧ (w'.heap[gb240]? = some (.cells #[.int .i64 a0_0, .string a0_1, .bool true, .int .u64 a0_3, .int .u64 a0_4, .int .u64 a0_5, .int .u64 a0_6] 48 (0, 0))) ∧ (Below w.heap.size w w')) ?_ ?_
                rotate_left
                · intro hJ4
                  refine join_ (σ := Unit) 6 #[true, true, true, true, false, false, true, true, true, false, true, true, false, false, false] (fun s_ => [(14, .string t244)]) (fun s_ w' => (w'.cell? ⟨gb240, 0, none⟩ = some (.int .i64 a0_0) ∧ w'.cell? ⟨gb240, 1, none⟩ = some (.string a0_1) ∧ w'.cell? ⟨gb240, 2, none⟩ = some (.bool true) ∧ w'.cell? ⟨gb240, 3, none⟩ = some (.int .u64 a0_3) ∧ w'.cell? ⟨gb240, 4, none⟩ = some (.int .u64 a0_4) ∧ w'.cell? ⟨gb240, 5, none⟩ = some (.int .u64 a0_5) ∧ w'.cell? ⟨gb240, 6, none⟩ = some (.int .u64 a0_6)) ∧ (w'.heap[gb240]? = some (.cells #[.int .i64 a0_0, .string a0_1, .bool true, .int .u64 a0_3, .int .u64 a0_4, .int .u64 a0_5, .int .u64 a0_6] 48 (0, 0))) ∧ (Below w.heap.size w w')) ?_ ?_
                  rotate_left
                  · intro hJ8
                    refine two_ (i := 4) (j := 8) (Ni := some 10) (Nj := some 14) #[true, true, true, true, true, false, true, true, false, false, true, true, false, false, false] #[true, true, true, true, false, false, true, true, true, false, true, true, false, false, false] rfl rfl rfl rfl (two_of HT_.out (by kernel_rfl)) (by decide) (by decide) (fun K hK => ?_) (fun K hK => ?_)
                    · skip
                      refine Kd.R_lit_step (Kd.int .u8) _ 5 ?hg (N := 10) ?hd (xs := ([(a0_0) % 256, 1] : List Int)) (inner := [.int .u8 ((a0_0) % 256), .int .u8 1]) (ok := fun _ => True) (okp := fun _ => True) ?hr ?hp (fun _ hk => hk) trivial (Below.refl _ _) (Nat.le_refl _) (by simp) ?_; (case hd => rfl); (case hg => rfl); (case hr => first | (go_simp; done) | (go_simp; rfl)); (case hp => exact (Reps.one (show Kd.M (Kd.int .u8) _ _ _ ((a0_0) % 256) [.int .u8 ((a0_0) % 256)] from rfl) (Reps.one (show Kd.M (Kd.int .u8) _ _ _ 1 [.int .u8 1] from rfl) (Reps.none _ _))))
                      intro v242 w10 ho11 hb hg_ hnew_
                      clear hg_ hnew_
                      (first | rw [← Ny241.out] at ho11 | (simp only [Int.reduceToNat] at ho11; rw [← Ny241.out] at ho11))
                      have HO243 := Aside0.mk (Kd.R_lower ho11 (below_size (Kz_ HB GE240)))
                      replace BK240 := Kb_ BK240 hb
                      replace HB := Ks_ HB hb
                      clear hb ho11
                      refine hK.out _ _ (Kc7_ BK240.out) (fun hHeld => ?_)
                      clear hK K
                      refine norm_ (a' := ?_) ?_ ?_
                      rotate_left
                      · show Act.put _ (some 10) _ = _
                        simp only [Act.put, List.setIfInBounds_toArray, List.set_cons_zero, List.set_cons_succ, i64_w, i32_w]
                        rfl
                      exact norm_ (by first | (simp only [putAll, Act.put, List.setIfInBounds_toArray, List.set_cons_zero, List.set_cons_succ]; done) | (simp only [putAll, Act.put, List.setIfInBounds_toArray, List.set_cons_zero, List.set_cons_succ]; rfl)) (hJ4 (v242) _ ⟨hHeld, (by (with_reducible repeat (first | apply Kd.R_alloc | apply Kd.R_drewN | apply Kd.R_drew)); exact HO243.out), (Kq_ BK240), (Kz_ HB GE240)⟩)
                    · skip
                      refine goes_ Try.func28 (by kernel_rfl) rfl #[.string a0_1] (by rfl) rfl rfl (by (try simp only [List.map_toArray, List.map_cons, List.map_nil]); first | done | rfl | (simp only [List.length_drop, List.length_take]; rfl)) ?_
                      with_reducible refine (tenementref02_Text.calls k a0_1 t244 _ A3.out).mono ?_
                      rintro e w10 ⟨rfl, hb⟩
                      refine ⟨_, rfl, ?_⟩
                      replace BK240 := Kb_ BK240 hb
                      replace HB := Ks_ HB hb
                      (try clear hb)
                      (try clear hb2)
                      (try clear hk)
                      (try clear hi)
                      refine hK.out _ _ (Kc7_ BK240.out) (fun hHeld => ?_)
                      clear hK K
                      refine norm_ (a' := ?_) ?_ ?_
                      rotate_left
                      · show Act.put _ (some 14) _ = _
                        simp only [Act.put, List.setIfInBounds_toArray, List.set_cons_zero, List.set_cons_succ, i64_w, i32_w]
                        rfl
                      exact norm_ (by first | (simp only [putAll, Act.put, List.setIfInBounds_toArray, List.set_cons_zero, List.set_cons_succ]; done) | (simp only [putAll, Act.put, List.setIfInBounds_toArray, List.set_cons_zero, List.set_cons_succ]; rfl)) (hJ8 () _ ⟨hHeld, (Kq_ BK240), (Kz_ HB GE240)⟩)
                  · skip
                    rintro _ w11 ⟨hS_, h0_, h1_⟩
                    have n0_ : Aside0 (w11.heap[gb240]? = some (.cells #[.int .i64 a0_0, .string a0_1, .bool true, .int .u64 a0_3, .int .u64 a0_4, .int .u64 a0_5, .int .u64 a0_6] 48 (0, 0))) := ⟨h0_⟩
                    have n1_ : Aside0 (Below w.heap.size w w11) := ⟨h1_⟩
                    clear BK240
                    clear HB
                    clear h0_ h1_
                    have BK240 := n0_
                    have HB := n1_
                    clear n0_ n1_
                    have hHeld : w11.cell? ⟨gb240, 0, none⟩ = some (.int .i64 a0_0) ∧ w11.cell? ⟨gb240, 1, none⟩ = some (.string a0_1) ∧ w11.cell? ⟨gb240, 2, none⟩ = some (.bool true) ∧ w11.cell? ⟨gb240, 3, none⟩ = some (.int .u64 a0_3) ∧ w11.cell? ⟨gb240, 4, none⟩ = some (.int .u64 a0_4) ∧ w11.cell? ⟨gb240, 5, none⟩ = some (.int .u64 a0_5) ∧ w11.cell? ⟨gb240, 6, none⟩ = some (.int .u64 a0_6) := hS_
                    refine norm_ (a' := ?_) ?_ ?_
                    rotate_left
                    · simp only [putAll, Act.put, List.setIfInBounds_toArray, List.set_cons_zero, List.set_cons_succ]
                      rfl
                    refine two_ (i := 4) (j := 12) (Ni := some 10) (Nj := some 18) #[true, true, true, true, true, false, true, true, true, false, true, true, false, false, false] #[true, true, true, true, false, false, true, true, true, false, true, true, true, false, false] rfl rfl rfl rfl (two_of HT_.out (by kernel_rfl)) (by decide) (by decide) (fun K hK => ?_) (fun K hK => ?_)
                    · skip
                      refine Kd.R_lit_step (Kd.int .u8) _ 5 ?hg (N := 10) ?hd (xs := ([(a0_0) % 256, 1] : List Int)) (inner := [.int .u8 ((a0_0) % 256), .int .u8 1]) (ok := fun _ => True) (okp := fun _ => True) ?hr ?hp (fun _ hk => hk) trivial (Below.refl _ _) (Nat.le_refl _) (by simp) ?_; (case hd => rfl); (case hg => rfl); (case hr => first | (go_simp; done) | (go_simp; rfl)); (case hp => exact (Reps.one (show Kd.M (Kd.int .u8) _ _ _ ((a0_0) % 256) [.int .u8 ((a0_0) % 256)] from rfl) (Reps.one (show Kd.M (Kd.int .u8) _ _ _ 1 [.int .u8 1] from rfl) (Reps.none _ _))))
                      intro v242 w12 ho13 hb hg_ hnew_
                      clear hg_ hnew_
                      (first | rw [← Ny241.out] at ho13 | (simp only [Int.reduceToNat] at ho13; rw [← Ny241.out] at ho13))
                      have HO243 := Aside0.mk (Kd.R_lower ho13 (below_size (Kz_ HB GE240)))
                      replace BK240 := Kb_ BK240 hb
                      replace HB := Ks_ HB hb
                      clear hb ho13
                      refine hK.out _ _ (Kc7_ BK240.out) (fun hHeld => ?_)
                      clear hK K
                      refine norm_ (a' := ?_) ?_ ?_
                      rotate_left
                      · show Act.put _ (some 10) _ = _
                        simp only [Act.put, List.setIfInBounds_toArray, List.set_cons_zero, List.set_cons_succ, i64_w, i32_w]
                        rfl
                      exact norm_ (by first | (simp only [putAll, Act.put, List.setIfInBounds_toArray, List.set_cons_zero, List.set_cons_succ]; done) | (simp only [putAll, Act.put, List.setIfInBounds_toArray, List.set_cons_zero, List.set_cons_succ]; rfl)) (hJ4_8 (v242) _ ⟨hHeld, (by (with_reducible repeat (first | apply Kd.R_alloc | apply Kd.R_drewN | apply Kd.R_drew)); exact HO243.out), (Kq_ BK240), (Kz_ HB GE240)⟩)
                    · skip
                      refine goes_ Try.func35 (by kernel_rfl) rfl #[.agg #[.int .u64 a0_3, .int .u64 a0_4, .int .u64 a0_5, .int .u64 a0_6]] (by rfl) rfl rfl (by (try simp only [List.map_toArray, List.map_cons, List.map_nil]); first | done | rfl | (simp only [List.length_drop, List.length_take]; rfl)) ?_
                      with_reducible refine (tenementref06_Put.calls k a0_3 a0_4 a0_5 a0_6 t245 _ A5.out).mono ?_
                      rintro e w12 ⟨rfl, hb⟩
                      refine ⟨_, rfl, ?_⟩
                      replace BK240 := Kb_ BK240 hb
                      replace HB := Ks_ HB hb
                      (try clear hb)
                      (try clear hb2)
                      (try clear hk)
                      (try clear hi)
                      refine hK.out _ _ (Kc7_ BK240.out) (fun hHeld => ?_)
                      clear hK K
                      refine norm_ (a' := ?_) ?_ ?_
                      rotate_left
                      · show Act.put _ (some 18) _ = _
                        simp only [Act.put, List.setIfInBounds_toArray, List.set_cons_zero, List.set_cons_succ, i64_w, i32_w]
                        rfl
                      exact norm_ (by first | (simp only [putAll, Act.put, List.setIfInBounds_toArray, List.set_cons_zero, List.set_cons_succ]; done) | (simp only [putAll, Act.put, List.setIfInBounds_toArray, List.set_cons_zero, List.set_cons_succ]; rfl)) (hJ8_12 () _ ⟨hHeld, (Kq_ BK240), (Kz_ HB GE240)⟩)
                · skip
                  rintro v242 w12 ⟨hS_, h0_, h1_, h2_⟩
                  have n0_ : Aside0 (Kd.R (Kd.int .u8) 5 w12 w.heap.size (fun _ => True) v242 y241) := ⟨h0_⟩
                  have n1_ : Aside0 (w12.heap[gb240]? = some (.cells #[.int .i64 a0_0, .string a0_1, .bool true, .int .u64 a0_3, .int .u64 a0_4, .int .u64 a0_5, .int .u64 a0_6] 48 (0, 0))) := ⟨h1_⟩
                  have n2_ : Aside0 (Below w.heap.size w w12) := ⟨h2_⟩
                  clear BK240
                  clear HB
                  clear h0_ h1_ h2_
                  have HO243 := n0_
                  have BK240 := n1_
                  have HB := n2_
                  clear n0_ n1_ n2_
                  have hHeld : w12.cell? ⟨gb240, 0, none⟩ = some (.int .i64 a0_0) ∧ w12.cell? ⟨gb240, 1, none⟩ = some (.string a0_1) ∧ w12.cell? ⟨gb240, 2, none⟩ = some (.bool true) ∧ w12.cell? ⟨gb240, 3, none⟩ = some (.int .u64 a0_3) ∧ w12.cell? ⟨gb240, 4, none⟩ = some (.int .u64 a0_4) ∧ w12.cell? ⟨gb240, 5, none⟩ = some (.int .u64 a0_5) ∧ w12.cell? ⟨gb240, 6, none⟩ = some (.int .u64 a0_6) := hS_
                  refine norm_ (a' := ?_) ?_ ?_
                  rotate_left
                  · simp only [putAll, Act.put, List.setIfInBounds_toArray, List.set_cons_zero, List.set_cons_succ]
                    rfl
                  refine two_ (i := 5) (j := 8) (Ni := some 11) (Nj := some 14) #[true, true, true, true, true, true, true, true, false, false, true, true, false, false, false] #[true, true, true, true, true, false, true, true, true, false, true, true, false, false, false] rfl rfl rfl rfl (two_of HT_.out (by kernel_rfl)) (by decide) (by decide) (fun K hK => ?_) (fun K hK => ?_)
                  · skip
                    have hcv13 := own_string (P := Try.prog) Try.underlying66 Try.underlying5 Try.underlying9 (Kd.own_of_R HO243.out)
                    refine value_ (w1 := ?_) (v := ?_) (by rfl) rfl ?_ ?_
                    rotate_left 2
                    · go_simp
                      constructor
                      · rfl
                      · rfl
                    clear hcv13
                    refine hK.out _ _ (Kc7_ BK240.out) (fun hHeld => ?_)
                    clear hK K
                    refine norm_ (a' := ?_) ?_ ?_
                    rotate_left
                    · show Act.put _ (some 11) _ = _
                      simp only [Act.put, List.setIfInBounds_toArray, List.set_cons_zero, List.set_cons_succ, i64_w, i32_w]
                      rfl
                    exact norm_ (by first | (simp only [putAll, Act.put, List.setIfInBounds_toArray, List.set_cons_zero, List.set_cons_succ]; done) | (simp only [putAll, Act.put, List.setIfInBounds_toArray, List.set_cons_zero, List.set_cons_succ]; rfl)) (hJ4_5 (v242) _ ⟨hHeld, (by (with_reducible repeat (first | apply Kd.R_alloc | apply Kd.R_drewN | apply Kd.R_drew)); exact HO243.out), (Kq_ BK240), (Kz_ HB GE240)⟩)
                  · skip
                    refine goes_ Try.func28 (by kernel_rfl) rfl #[.string a0_1] (by rfl) rfl rfl (by (try simp only [List.map_toArray, List.map_cons, List.map_nil]); first | done | rfl | (simp only [List.length_drop, List.length_take]; rfl)) ?_
                    with_reducible refine (tenementref02_Text.calls k a0_1 t244 _ A3.out).mono ?_
                    rintro e w13 ⟨rfl, hb⟩
                    refine ⟨_, rfl, ?_⟩
                    replace HO243 := Aside0.mk (Kd.R_below (by (with_reducible repeat (first | apply Kd.R_alloc | apply Kd.R_drewN | apply Kd.R_drew)); exact HO243.out) hb)
                    replace BK240 := Kb_ BK240 hb
                    replace HB := Ks_ HB hb
                    (try clear hb)
                    (try clear hb2)
                    (try clear hk)
                    (try clear hi)
                    refine hK.out _ _ (Kc7_ BK240.out) (fun hHeld => ?_)
                    clear hK K
                    refine norm_ (a' := ?_) ?_ ?_
                    rotate_left
                    · show Act.put _ (some 14) _ = _
                      simp only [Act.put, List.setIfInBounds_toArray, List.set_cons_zero, List.set_cons_succ, i64_w, i32_w]
                      rfl
                    exact norm_ (by first | (simp only [putAll, Act.put, List.setIfInBounds_toArray, List.set_cons_zero, List.set_cons_succ]; done) | (simp only [putAll, Act.put, List.setIfInBounds_toArray, List.set_cons_zero, List.set_cons_succ]; rfl)) (hJ4_8 (v242) _ ⟨hHeld, (by (with_reducible repeat (first | apply Kd.R_alloc | apply Kd.R_drewN | apply Kd.R_drew)); exact HO243.out), (Kq_ BK240), (Kz_ HB GE240)⟩)
              · skip
                rintro _ w12 ⟨hS_, h0_, h1_⟩
                have n0_ : Aside0 (w12.heap[gb240]? = some (.cells #[.int .i64 a0_0, .string a0_1, .bool true, .int .u64 a0_3, .int .u64 a0_4, .int .u64 a0_5, .int .u64 a0_6] 48 (0, 0))) := ⟨h0_⟩
                have n1_ : Aside0 (Below w.heap.size w w12) := ⟨h1_⟩
                clear BK240
                clear HB
                clear h0_ h1_
                have BK240 := n0_
                have HB := n1_
                clear n0_ n1_
                have hHeld : w12.cell? ⟨gb240, 0, none⟩ = some (.int .i64 a0_0) ∧ w12.cell? ⟨gb240, 1, none⟩ = some (.string a0_1) ∧ w12.cell? ⟨gb240, 2, none⟩ = some (.bool true) ∧ w12.cell? ⟨gb240, 3, none⟩ = some (.int .u64 a0_3) ∧ w12.cell? ⟨gb240, 4, none⟩ = some (.int .u64 a0_4) ∧ w12.cell? ⟨gb240, 5, none⟩ = some (.int .u64 a0_5) ∧ w12.cell? ⟨gb240, 6, none⟩ = some (.int .u64 a0_6) := hS_
                refine norm_ (a' := ?_) ?_ ?_
                rotate_left
                · simp only [putAll, Act.put, List.setIfInBounds_toArray, List.set_cons_zero, List.set_cons_succ]
                  rfl
                refine one_ (i := 4) (N := some 10) #[true, true, true, true, true, false, true, true, true, false, true, true, true, false, false] rfl rfl (one_of HT_.out (by kernel_rfl)) (by decide) (fun K hK => ?_)
                refine Kd.R_lit_step (Kd.int .u8) _ 5 ?hg (N := 10) ?hd (xs := ([(a0_0) % 256, 1] : List Int)) (inner := [.int .u8 ((a0_0) % 256), .int .u8 1]) (ok := fun _ => True) (okp := fun _ => True) ?hr ?hp (fun _ hk => hk) trivial (Below.refl _ _) (Nat.le_refl _) (by simp) ?_; (case hd => rfl); (case hg => rfl); (case hr => first | (go_simp; done) | (go_simp; rfl)); (case hp => exact (Reps.one (show Kd.M (Kd.int .u8) _ _ _ ((a0_0) % 256) [.int .u8 ((a0_0) % 256)] from rfl) (Reps.one (show Kd.M (Kd.int .u8) _ _ _ 1 [.int .u8 1] from rfl) (Reps.none _ _))))
                intro v242 w13 ho14 hb hg_ hnew_
                clear hg_ hnew_
                (first | rw [← Ny241.out] at ho14 | (simp only [Int.reduceToNat] at ho14; rw [← Ny241.out] at ho14))
                have HO243 := Aside0.mk (Kd.R_lower ho14 (below_size (Kz_ HB GE240)))
                replace BK240 := Kb_ BK240 hb
                replace HB := Ks_ HB hb
                clear hb ho14
                refine hK.out _ _ (Kc7_ BK240.out) (fun hHeld => ?_)
                clear hK K
                refine norm_ (a' := ?_) ?_ ?_
                rotate_left
                · show Act.put _ (some 10) _ = _
                  simp only [Act.put, List.setIfInBounds_toArray, List.set_cons_zero, List.set_cons_succ, i64_w, i32_w]
                  rfl
                exact norm_ (by first | (simp only [putAll, Act.put, List.setIfInBounds_toArray, List.set_cons_zero, List.set_cons_succ]; done) | (simp only [putAll, Act.put, List.setIfInBounds_toArray, List.set_cons_zero, List.set_cons_succ]; rfl)) (hJ4_8_12 (v242) _ ⟨hHeld, (by (with_reducible repeat (first | apply Kd.R_alloc | apply Kd.R_drewN | apply Kd.R_drew)); exact HO243.out), (Kq_ BK240), (Kz_ HB GE240)⟩)
            · skip
              rintro v242 w13 ⟨hS_, h0_, h1_, h2_⟩
              have n0_ : Aside0 (Kd.R (Kd.int .u8) 5 w13 w.heap.size (fun _ => True) v242 y241) := ⟨h0_⟩
              have n1_ : Aside0 (w13.heap[gb240]? = some (.cells #[.int .i64 a0_0, .string a0_1, .bool true, .int .u64 a0_3, .int .u64 a0_4, .int .u64 a0_5, .int .u64 a0_6] 48 (0, 0))) := ⟨h1_⟩
              have n2_ : Aside0 (Below w.heap.size w w13) := ⟨h2_⟩
              clear BK240
              clear HB
              clear h0_ h1_ h2_
              have HO243 := n0_
              have BK240 := n1_
              have HB := n2_
              clear n0_ n1_ n2_
              have hHeld : w13.cell? ⟨gb240, 0, none⟩ = some (.int .i64 a0_0) ∧ w13.cell? ⟨gb240, 1, none⟩ = some (.string a0_1) ∧ w13.cell? ⟨gb240, 2, none⟩ = some (.bool true) ∧ w13.cell? ⟨gb240, 3, none⟩ = some (.int .u64 a0_3) ∧ w13.cell? ⟨gb240, 4, none⟩ = some (.int .u64 a0_4) ∧ w13.cell? ⟨gb240, 5, none⟩ = some (.int .u64 a0_5) ∧ w13.cell? ⟨gb240, 6, none⟩ = some (.int .u64 a0_6) := hS_
              refine norm_ (a' := ?_) ?_ ?_
              rotate_left
              · simp only [putAll, Act.put, List.setIfInBounds_toArray, List.set_cons_zero, List.set_cons_succ]
                rfl
              refine two_ (i := 5) (j := 12) (Ni := some 11) (Nj := some 18) #[true, true, true, true, true, true, true, true, true, false, true, true, false, false, false] #[true, true, true, true, true, false, true, true, true, false, true, true, true, false, false] rfl rfl rfl rfl (two_of HT_.out (by kernel_rfl)) (by decide) (by decide) (fun K hK => ?_) (fun K hK => ?_)
              · skip
                have hcv14 := own_string (P := Try.prog) Try.underlying66 Try.underlying5 Try.underlying9 (Kd.own_of_R HO243.out)
                refine value_ (w1 := ?_) (v := ?_) (by rfl) rfl ?_ ?_
                rotate_left 2
                · go_simp
                  constructor
                  · rfl
                  · rfl
                clear hcv14
                refine hK.out _ _ (Kc7_ BK240.out) (fun hHeld => ?_)
                clear hK K
                refine norm_ (a' := ?_) ?_ ?_
                rotate_left
                · show Act.put _ (some 11) _ = _
                  simp only [Act.put, List.setIfInBounds_toArray, List.set_cons_zero, List.set_cons_succ, i64_w, i32_w]
                  rfl
                refine pure_ (i := 9) (N := some 15) (v := ?_) (a' := ?_) #[true, true, true, true, true, true, true, true, true, true, true, true, false, false, false] rfl rfl (any_of HT_.out (by kernel_rfl)) (fun _ _ _ h => h) (Or.inl ⟨by rfl, ?_⟩) ?_ ?_
                rotate_left
                · intro w'
                  go_simp
                  with_reducible rfl
                rotate_left
                · simp only [Act.put, List.setIfInBounds_toArray, List.set_cons_zero, List.set_cons_succ, i64_w, i32_w]
                  rfl
                exact norm_ (by first | (simp only [putAll, Act.put, List.setIfInBounds_toArray, List.set_cons_zero, List.set_cons_succ]; done) | (simp only [putAll, Act.put, List.setIfInBounds_toArray, List.set_cons_zero, List.set_cons_succ]; rfl)) (hJ4_5_8 (v242) _ ⟨hHeld, (by (with_reducible repeat (first | apply Kd.R_alloc | apply Kd.R_drewN | apply Kd.R_drew)); exact HO243.out), (Kq_ BK240), (Kz_ HB GE240)⟩)
              · skip
                refine goes_ Try.func35 (by kernel_rfl) rfl #[.agg #[.int .u64 a0_3, .int .u64 a0_4, .int .u64 a0_5, .int .u64 a0_6]] (by rfl) rfl rfl (by (try simp only [List.map_toArray, List.map_cons, List.map_nil]); first | done | rfl | (simp only [List.length_drop, List.length_take]; rfl)) ?_
                with_reducible refine (tenementref06_Put.calls k a0_3 a0_4 a0_5 a0_6 t245 _ A5.out).mono ?_
                rintro e w14 ⟨rfl, hb⟩
                refine ⟨_, rfl, ?_⟩
                replace HO243 := Aside0.mk (Kd.R_below (by (with_reducible repeat (first | apply Kd.R_alloc | apply Kd.R_drewN | apply Kd.R_drew)); exact HO243.out) hb)
                replace BK240 := Kb_ BK240 hb
                replace HB := Ks_ HB hb
                (try clear hb)
                (try clear hb2)
                (try clear hk)
                (try clear hi)
                refine hK.out _ _ (Kc7_ BK240.out) (fun hHeld => ?_)
                clear hK K
                refine norm_ (a' := ?_) ?_ ?_
                rotate_left
                · show Act.put _ (some 18) _ = _
                  simp only [Act.put, List.setIfInBounds_toArray, List.set_cons_zero, List.set_cons_succ, i64_w, i32_w]
                  rfl
                exact norm_ (by first | (simp only [putAll, Act.put, List.setIfInBounds_toArray, List.set_cons_zero, List.set_cons_succ]; done) | (simp only [putAll, Act.put, List.setIfInBounds_toArray, List.set_cons_zero, List.set_cons_succ]; rfl)) (hJ4_8_12 (v242) _ ⟨hHeld, (by (with_reducible repeat (first | apply Kd.R_alloc | apply Kd.R_drewN | apply Kd.R_drew)); exact HO243.out), (Kq_ BK240), (Kz_ HB GE240)⟩)
          · skip
            rintro v242 w13 ⟨hS_, h0_, h1_, h2_⟩
            have n0_ : Aside0 (Kd.R (Kd.int .u8) 5 w13 w.heap.size (fun _ => True) v242 y241) := ⟨h0_⟩
            have n1_ : Aside0 (w13.heap[gb240]? = some (.cells #[.int .i64 a0_0, .string a0_1, .bool true, .int .u64 a0_3, .int .u64 a0_4, .int .u64 a0_5, .int .u64 a0_6] 48 (0, 0))) := ⟨h1_⟩
            have n2_ : Aside0 (Below w.heap.size w w13) := ⟨h2_⟩
            clear BK240
            clear HB
            clear h0_ h1_ h2_
            have HO243 := n0_
            have BK240 := n1_
            have HB := n2_
            clear n0_ n1_ n2_
            have hHeld : w13.cell? ⟨gb240, 0, none⟩ = some (.int .i64 a0_0) ∧ w13.cell? ⟨gb240, 1, none⟩ = some (.string a0_1) ∧ w13.cell? ⟨gb240, 2, none⟩ = some (.bool true) ∧ w13.cell? ⟨gb240, 3, none⟩ = some (.int .u64 a0_3) ∧ w13.cell? ⟨gb240, 4, none⟩ = some (.int .u64 a0_4) ∧ w13.cell? ⟨gb240, 5, none⟩ = some (.int .u64 a0_5) ∧ w13.cell? ⟨gb240, 6, none⟩ = some (.int .u64 a0_6) := hS_
            refine norm_ (a' := ?_) ?_ ?_
            rotate_left
            · simp only [putAll, Act.put, List.setIfInBounds_toArray, List.set_cons_zero, List.set_cons_succ]
              rfl
            refine one_ (i := 8) (N := some 14) #[true, true, true, true, true, true, true, true, true, false, true, true, false, false, false] rfl rfl (one_of HT_.out (by kernel_rfl)) (by decide) (fun K hK => ?_)
            refine goes_ Try.func28 (by kernel_rfl) rfl #[.string a0_1] (by rfl) rfl rfl (by (try simp only [List.map_toArray, List.map_cons, List.map_nil]); first | done | rfl | (simp only [List.length_drop, List.length_take]; rfl)) ?_
            with_reducible refine (tenementref02_Text.calls k a0_1 t244 _ A3.out).mono ?_
            rintro e w14 ⟨rfl, hb⟩
            refine ⟨_, rfl, ?_⟩
            replace HO243 := Aside0.mk (Kd.R_below (by (with_reducible repeat (first | apply Kd.R_alloc | apply Kd.R_drewN | apply Kd.R_drew)); exact HO243.out) hb)
            replace BK240 := Kb_ BK240 hb
            replace HB := Ks_ HB hb
            (try clear hb)
            (try clear hb2)
            (try clear hk)
            (try clear hi)
            refine hK.out _ _ (Kc7_ BK240.out) (fun hHeld => ?_)
            clear hK K
            refine norm_ (a' := ?_) ?_ ?_
            rotate_left
            · show Act.put _ (some 14) _ = _
              simp only [Act.put, List.setIfInBounds_toArray, List.set_cons_zero, List.set_cons_succ, i64_w, i32_w]
              rfl
            refine pure_ (i := 9) (N := some 15) (v := ?_) (a' := ?_) #[true, true, true, true, true, true, true, true, true, true, true, true, false, false, false] rfl rfl (any_of HT_.out (by kernel_rfl)) (fun _ _ _ h => h) (Or.inl ⟨by rfl, ?_⟩) ?_ ?_
            rotate_left
            · intro w'
              go_simp
              with_reducible rfl
            rotate_left
            · simp only [Act.put, List.setIfInBounds_toArray, List.set_cons_zero, List.set_cons_succ, i64_w, i32_w]
              rfl
            exact norm_ (by first | (simp only [putAll, Act.put, List.setIfInBounds_toArray, List.set_cons_zero, List.set_cons_succ]; done) | (simp only [putAll, Act.put, List.setIfInBounds_toArray, List.set_cons_zero, List.set_cons_succ]; rfl)) (hJ4_5_8 (v242) _ ⟨hHeld, (by (with_reducible repeat (first | apply Kd.R_alloc | apply Kd.R_drewN | apply Kd.R_drew)); exact HO243.out), (Kq_ BK240), (Kz_ HB GE240)⟩)
        · skip
          rintro v242 w14 ⟨hS_, h0_, h1_, h2_⟩
          have n0_ : Aside0 (Kd.R (Kd.int .u8) 5 w14 w.heap.size (fun _ => True) v242 y241) := ⟨h0_⟩
          have n1_ : Aside0 (w14.heap[gb240]? = some (.cells #[.int .i64 a0_0, .string a0_1, .bool true, .int .u64 a0_3, .int .u64 a0_4, .int .u64 a0_5, .int .u64 a0_6] 48 (0, 0))) := ⟨h1_⟩
          have n2_ : Aside0 (Below w.heap.size w w14) := ⟨h2_⟩
          clear BK240
          clear HB
          clear h0_ h1_ h2_
          have HO243 := n0_
          have BK240 := n1_
          have HB := n2_
          clear n0_ n1_ n2_
          have hHeld : w14.cell? ⟨gb240, 0, none⟩ = some (.int .i64 a0_0) ∧ w14.cell? ⟨gb240, 1, none⟩ = some (.string a0_1) ∧ w14.cell? ⟨gb240, 2, none⟩ = some (.bool true) ∧ w14.cell? ⟨gb240, 3, none⟩ = some (.int .u64 a0_3) ∧ w14.cell? ⟨gb240, 4, none⟩ = some (.int .u64 a0_4) ∧ w14.cell? ⟨gb240, 5, none⟩ = some (.int .u64 a0_5) ∧ w14.cell? ⟨gb240, 6, none⟩ = some (.int .u64 a0_6) := hS_
          refine norm_ (a' := ?_) ?_ ?_
          rotate_left
          · simp only [putAll, Act.put, List.setIfInBounds_toArray, List.set_cons_zero, List.set_cons_succ]
            rfl
          refine one_ (i := 5) (N := some 11) #[true, true, true, true, true, true, true, true, true, false, true, true, true, false, false] rfl rfl (one_of HT_.out (by kernel_rfl)) (by decide) (fun K hK => ?_)
          have hcv15 := own_string (P := Try.prog) Try.underlying66 Try.underlying5 Try.underlying9 (Kd.own_of_R HO243.out)
          refine value_ (w1 := ?_) (v := ?_) (by rfl) rfl ?_ ?_
          rotate_left 2
          · go_simp
            constructor
            · rfl
            · rfl
          clear hcv15
          refine hK.out _ _ (Kc7_ BK240.out) (fun hHeld => ?_)
          clear hK K
          refine norm_ (a' := ?_) ?_ ?_
          rotate_left
          · show Act.put _ (some 11) _ = _
            simp only [Act.put, List.setIfInBounds_toArray, List.set_cons_zero, List.set_cons_succ, i64_w, i32_w]
            rfl
          refine pure_ (i := 9) (N := some 15) (v := ?_) (a' := ?_) #[true, true, true, true, true, true, true, true, true, true, true, true, true, false, false] rfl rfl (any_of HT_.out (by kernel_rfl)) (fun _ _ _ h => h) (Or.inl ⟨by rfl, ?_⟩) ?_ ?_
          rotate_left
          · intro w'
            go_simp
            with_reducible rfl
          rotate_left
          · simp only [Act.put, List.setIfInBounds_toArray, List.set_cons_zero, List.set_cons_succ, i64_w, i32_w]
            rfl
          exact norm_ (by first | (simp only [putAll, Act.put, List.setIfInBounds_toArray, List.set_cons_zero, List.set_cons_succ]; done) | (simp only [putAll, Act.put, List.setIfInBounds_toArray, List.set_cons_zero, List.set_cons_succ]; rfl)) (hJ4_5_8_12 (v242) _ ⟨hHeld, (by (with_reducible repeat (first | apply Kd.R_alloc | apply Kd.R_drewN | apply Kd.R_drew)); exact HO243.out), (Kq_ BK240), (Kz_ HB GE240)⟩)
      · skip
        rintro v242 w14 ⟨hS_, h0_, h1_, h2_⟩
        have n0_ : Aside0 (Kd.R (Kd.int .u8) 5 w14 w.heap.size (fun _ => True) v242 y241) := ⟨h0_⟩
        have n1_ : Aside0 (w14.heap[gb240]? = some (.cells #[.int .i64 a0_0, .string a0_1, .bool true, .int .u64 a0_3, .int .u64 a0_4, .int .u64 a0_5, .int .u64 a0_6] 48 (0, 0))) := ⟨h1_⟩
        have n2_ : Aside0 (Below w.heap.size w w14) := ⟨h2_⟩
        clear BK240
        clear HB
        clear h0_ h1_ h2_
        have HO243 := n0_
        have BK240 := n1_
        have HB := n2_
        clear n0_ n1_ n2_
        have hHeld : w14.cell? ⟨gb240, 0, none⟩ = some (.int .i64 a0_0) ∧ w14.cell? ⟨gb240, 1, none⟩ = some (.string a0_1) ∧ w14.cell? ⟨gb240, 2, none⟩ = some (.bool true) ∧ w14.cell? ⟨gb240, 3, none⟩ = some (.int .u64 a0_3) ∧ w14.cell? ⟨gb240, 4, none⟩ = some (.int .u64 a0_4) ∧ w14.cell? ⟨gb240, 5, none⟩ = some (.int .u64 a0_5) ∧ w14.cell? ⟨gb240, 6, none⟩ = some (.int .u64 a0_6) := hS_
        refine norm_ (a' := ?_) ?_ ?_
        rotate_left
        · simp only [putAll, Act.put, List.setIfInBounds_toArray, List.set_cons_zero, List.set_cons_succ]
          rfl
        refine one_ (i := 12) (N := some 18) #[true, true, true, true, true, true, true, true, true, true, true, true, true, false, false] rfl rfl (one_of HT_.out (by kernel_rfl)) (by decide) (fun K hK => ?_)
        refine goes_ Try.func35 (by kernel_rfl) rfl #[.agg #[.int .u64 a0_3, .int .u64 a0_4, .int .u64 a0_5, .int .u64 a0_6]] (by rfl) rfl rfl (by (try simp only [List.map_toArray, List.map_cons, List.map_nil]); first | done | rfl | (simp only [List.length_drop, List.length_take]; rfl)) ?_
        with_reducible refine (tenementref06_Put.calls k a0_3 a0_4 a0_5 a0_6 t245 _ A5.out).mono ?_
        rintro e w15 ⟨rfl, hb⟩
        refine ⟨_, rfl, ?_⟩
        replace HO243 := Aside0.mk (Kd.R_below (by (with_reducible repeat (first | apply Kd.R_alloc | apply Kd.R_drewN | apply Kd.R_drew)); exact HO243.out) hb)
        replace BK240 := Kb_ BK240 hb
        replace HB := Ks_ HB hb
        (try clear hb)
        (try clear hb2)
        (try clear hk)
        (try clear hi)
        refine hK.out _ _ (Kc7_ BK240.out) (fun hHeld => ?_)
        clear hK K
        refine norm_ (a' := ?_) ?_ ?_
        rotate_left
        · show Act.put _ (some 18) _ = _
          simp only [Act.put, List.setIfInBounds_toArray, List.set_cons_zero, List.set_cons_succ, i64_w, i32_w]
          rfl
        exact norm_ (by first | (simp only [putAll, Act.put, List.setIfInBounds_toArray, List.set_cons_zero, List.set_cons_succ]; done) | (simp only [putAll, Act.put, List.setIfInBounds_toArray, List.set_cons_zero, List.set_cons_succ]; rfl)) (hJ4_5_8_12 (v242) _ ⟨hHeld, (by (with_reducible repeat (first | apply Kd.R_alloc | apply Kd.R_drewN | apply Kd.R_drew)); exact HO243.out), (Kq_ BK240), (Kz_ HB GE240)⟩)
    rintro v242 w15 ⟨hS_, h0_, h1_, h2_⟩
    have n0_ : Aside0 (Kd.R (Kd.int .u8) 5 w15 w.heap.size (fun _ => True) v242 y241) := ⟨h0_⟩
    have n1_ : Aside0 (w15.heap[gb240]? = some (.cells #[.int .i64 a0_0, .string a0_1, .bool true, .int .u64 a0_3, .int .u64 a0_4, .int .u64 a0_5, .int .u64 a0_6] 48 (0, 0))) := ⟨h1_⟩
    have n2_ : Aside0 (Below w.heap.size w w15) := ⟨h2_⟩
    clear BK240
    clear HB
    clear h0_ h1_ h2_
    have HO243 := n0_
    have BK240 := n1_
    have HB := n2_
    clear n0_ n1_ n2_
    have hHeld : w15.cell? ⟨gb240, 0, none⟩ = some (.int .i64 a0_0) ∧ w15.cell? ⟨gb240, 1, none⟩ = some (.string a0_1) ∧ w15.cell? ⟨gb240, 2, none⟩ = some (.bool true) ∧ w15.cell? ⟨gb240, 3, none⟩ = some (.int .u64 a0_3) ∧ w15.cell? ⟨gb240, 4, none⟩ = some (.int .u64 a0_4) ∧ w15.cell? ⟨gb240, 5, none⟩ = some (.int .u64 a0_5) ∧ w15.cell? ⟨gb240, 6, none⟩ = some (.int .u64 a0_6) := hS_
    refine norm_ (a' := ?_) ?_ ?_
    rotate_left
    · simp only [putAll, Act.put, List.setIfInBounds_toArray, List.set_cons_zero, List.set_cons_succ]
      rfl
    refine pure_ (i := 13) (N := some 19) (v := ?_) (a' := ?_) #[true, true, true, true, true, true, true, true, true, true, true, true, true, true, false] rfl rfl (any_of HT_.out (by kernel_rfl)) (fun _ _ _ h => h) (Or.inl ⟨by rfl, ?_⟩) ?_ ?_
    rotate_left
    · intro w'
      go_simp
      with_reducible rfl
    rotate_left
    · simp only [Act.put, List.setIfInBounds_toArray, List.set_cons_zero, List.set_cons_succ, i64_w, i32_w]
      rfl
    refine pure_ (i := 14) (N := some 2) (v := ?_) (a' := ?_) #[true, true, true, true, true, true, true, true, true, true, true, true, true, true, true] rfl rfl (any_of HT_.out (by kernel_rfl)) (fun _ _ _ h => h) (Or.inl ⟨by rfl, ?_⟩) ?_ ?_
    rotate_left
    · intro w'
      go_simp
      with_reducible rfl
    rotate_left
    · simp only [Act.put, List.setIfInBounds_toArray, List.set_cons_zero, List.set_cons_succ, i64_w, i32_w]
      rfl
    refine done_ (done_of HT_.out (by kernel_rfl)) ?_
    try go_wp2
    go_ret
    exact ⟨by first | rfl | (simp [errW_none, errW_some] <;> rfl) | (simp [*, errW_none, errW_some] <;> rfl), Kz_ HB GE240⟩
  replace c2 := Bool.eq_false_iff.mpr c2
  subst c2
  have H1 : ((some (([(a0_0) % 256, 0] : List Int) : List Int)).bind fun y246 => ((tenementref02_Text.f k a0_1).bind fun t249 => (if (strOfNums y246).size + t249.size ≤ 9223372036854775807 then ((tenementref06_Put.f k a0_3 a0_4 a0_5 a0_6).bind fun t250 => (if ((strOfNums y246) ++ t249).size + t250.size ≤ 9223372036854775807 then (some (((strOfNums y246) ++ t249) ++ t250)) else (none))) else (none)))) = some r := by rw [if_neg (show ¬ (false = true) by decide)] at H; exact H
  clear H
  have H := H1
  clear H1
  obtain ⟨y246, hy246⟩ : ∃ y_ : List Int, y_ = (([(a0_0) % 256, 0] : List Int)) := ⟨_, rfl⟩
  replace H : ((tenementref02_Text.f k a0_1).bind fun t249 => (if (strOfNums y246).size + t249.size ≤ 9223372036854775807 then ((tenementref06_Put.f k a0_3 a0_4 a0_5 a0_6).bind fun t250 => (if ((strOfNums y246) ++ t249).size + t250.size ≤ 9223372036854775807 then (some (((strOfNums y246) ++ t249) ++ t250)) else (none))) else (none))) = some r := by first | (rw [hy246]; with_reducible exact H) | (have H2_ := (Option.bind_some _ _).symm.trans H; rw [hy246]; with_reducible exact H2_) | (have H2_ := (Option.bind_some _ _).symm.trans H; with_reducible exact H2_) | with_reducible exact H | (rw [hy246]; exact H) | exact H
  have Ny246 := Aside0.mk hy246
  clear hy246
  replace H := Option.bind_eq_some_iff.mp H
  obtain ⟨t249, A160, H⟩ := H
  replace H : (if (strOfNums y246).size + t249.size ≤ 9223372036854775807 then ((tenementref06_Put.f k a0_3 a0_4 a0_5 a0_6).bind fun t250 => (if ((strOfNums y246) ++ t249).size + t250.size ≤ 9223372036854775807 then (some (((strOfNums y246) ++ t249) ++ t250)) else (none))) else (none)) = some r := H
  have A16 := Aside0.mk A160
  clear A160
  by_cases c17 : (strOfNums y246).size + t249.size ≤ 9223372036854775807
  rotate_left
  · rw [if_neg c17] at H
    exact absurd H (by simp)
  rw [if_pos c17] at H
  have c17b0 := eq_true c17
  have c17b1 : decide ((strOfNums y246).size + t249.size ≤ 9223372036854775807) = true := decide_eq_true c17
  try have c17b2 : (9223372036854775807 < (strOfNums y246).size + t249.size) = False := eq_false (Nat.not_lt.2 c17)
  replace H := Option.bind_eq_some_iff.mp H
  obtain ⟨t250, A180, H⟩ := H
  replace H : (if ((strOfNums y246) ++ t249).size + t250.size ≤ 9223372036854775807 then (some (((strOfNums y246) ++ t249) ++ t250)) else (none)) = some r := H
  have A18 := Aside0.mk A180
  clear A180
  by_cases c19 : ((strOfNums y246) ++ t249).size + t250.size ≤ 9223372036854775807
  rotate_left
  · rw [if_neg c19] at H
    exact absurd H (by simp)
  rw [if_pos c19] at H
  have c19b0 := eq_true c19
  (try (have c19b0s_ := c19b0; simp only [ByteArray.size_append, Int.natCast_add] at c19b0s_))
  have c19b1 : decide (((strOfNums y246) ++ t249).size + t250.size ≤ 9223372036854775807) = true := decide_eq_true c19
  (try (have c19b1s_ := c19b1; simp only [ByteArray.size_append, Int.natCast_add] at c19b1s_))
  try have c19b2 : (9223372036854775807 < ((strOfNums y246) ++ t249).size + t250.size) = False := eq_false (Nat.not_lt.2 c19)
  (try (have c19b2s_ := c19b2; simp only [ByteArray.size_append, Int.natCast_add] at c19b2s_))
  obtain rfl := Option.some.inj H
  go_enter Try.func18, Try.ntmps18
  try go_wp2_with (first | ((with_reducible refine gate_dst (N := 1) rfl ?_); refine box_event ?hg (N := 1) ?hd (cs := #[.int .i64 a0_0, .string a0_1, .bool false, .int .u64 a0_3, .int .u64 a0_4, .int .u64 a0_5, .int .u64 a0_6]) (t := 48) ?hr ?_; (case hd => rfl); (case hg => rfl); (case hr => first | (go_simp; done) | (go_simp; rfl)); intro gb240 hg w20 hbox hb; have BK240 := Aside0.mk (hbox); have GW240 := Kw_ HB hg; have GE240 := GW240; replace HB := Ks_ HB hb; clear hb hbox hg; obtain ⟨hcz21_0, hcz21_1, hcz21_2, hcz21_3, hcz21_4, hcz21_5, hcz21_6, hfz21_0, hfz21_1, hfz21_2, hfz21_3, hfz21_4, hfz21_5, hfz21_6⟩ := Ke7_ BK240.out))
  replace BK240 := Kd_ BK240
  replace HB := Aside0.mk (below_drew1 HB.out)
  refine start_ (n := 15) (S := fun w' => w'.cell? ⟨gb240, 0, none⟩ = some (.int .i64 a0_0) ∧ w'.cell? ⟨gb240, 1, none⟩ = some (.string a0_1) ∧ w'.cell? ⟨gb240, 2, none⟩ = some (.bool false) ∧ w'.cell? ⟨gb240, 3, none⟩ = some (.int .u64 a0_3) ∧ w'.cell? ⟨gb240, 4, none⟩ = some (.int .u64 a0_4) ∧ w'.cell? ⟨gb240, 5, none⟩ = some (.int .u64 a0_5) ∧ w'.cell? ⟨gb240, 6, none⟩ = some (.int .u64 a0_6)) (ds := []) #[false, false, false, false, false, false, false, false, false, false, false, false, false, false, false] (by kernel_rfl) rfl rfl (Kc7_ BK240.out) (fun hHeld => ?_); refine with_tabW tenementref19_Answer.tab4 tenementref19_Answer.bits4 (fun HT_ HW_ => ?_)
  generalize w20.drew = w22 at BK240 HB hHeld ⊢
  refine pure_ (i := 0) (N := some 6) (v := ?_) (a' := ?_) #[true, false, false, false, false, false, false, false, false, false, false, false, false, false, false] rfl rfl (any_of HT_.out (by kernel_rfl)) (fun _ _ _ h => h) (Or.inl ⟨by rfl, ?_⟩) ?_ ?_
  rotate_left
  · intro w'
    go_simp
    with_reducible rfl
  rotate_left
  · simp only [Act.put, List.setIfInBounds_toArray, List.set_cons_zero, List.set_cons_succ, i64_w, i32_w]
    rfl
  refine pure_ (i := 3) (N := some 9) (v := ?_) (a' := ?_) #[true, false, false, true, false, false, false, false, false, false, false, false, false, false, false] rfl rfl (any_of HT_.out (by kernel_rfl)) (fun _ _ _ h => h) (Or.inl ⟨by rfl, ?_⟩) ?_ ?_
  rotate_left
  · intro w'
    go_simp
    with_reducible rfl
  rotate_left
  · simp only [Act.put, List.setIfInBounds_toArray, List.set_cons_zero, List.set_cons_succ, i64_w, i32_w]
    rfl
  refine pure_ (i := 6) (N := some 12) (v := ?_) (a' := ?_) #[true, false, false, true, false, false, true, false, false, false, false, false, false, false, false] rfl rfl (any_of HT_.out (by kernel_rfl)) (fun _ _ _ h => h) (Or.inl ⟨by rfl, ?_⟩) ?_ ?_
  rotate_left
  · intro w'
    go_simp
    with_reducible rfl
  rotate_left
  · simp only [Act.put, List.setIfInBounds_toArray, List.set_cons_zero, List.set_cons_succ, i64_w, i32_w]
    rfl
  refine pure_ (i := 10) (N := some 16) (v := ?_) (a' := ?_) #[true, false, false, true, false, false, true, false, false, false, true, false, false, false, false] rfl rfl (any_of HT_.out (by kernel_rfl)) (fun _ _ _ h => h) (Or.inl ⟨by rfl, ?_⟩) ?_ ?_
  rotate_left
  · intro w'
    go_simp
    with_reducible rfl
  rotate_left
  · simp only [Act.put, List.setIfInBounds_toArray, List.set_cons_zero, List.set_cons_succ, i64_w, i32_w]
    rfl
  refine take_ (i := 1) (N := some 7) (v := ?_) (a' := ?_) #[true, true, false, true, false, false, true, false, false, false, true, false, false, false, false] rfl rfl (take_ofW HT_.out HW_.out (by kernel_rfl)) (fun _ _ _ h => h) (Or.inl ⟨by rfl, ?_⟩) hHeld ?_ ?_
  rotate_left
  · rintro w' ⟨s0, s1, s2, s3, s4, s5, s6⟩
    go_simp
    with_reducible rfl
  rotate_left
  · simp only [Act.put, List.setIfInBounds_toArray, List.set_cons_zero, List.set_cons_succ, i64_w, i32_w]
    rfl
  refine pure_ (i := 2) (N := some 8) (v := ?_) (a' := ?_) #[true, true, true, true, false, false, true, false, false, false, true, false, false, false, false] rfl rfl (any_of HT_.out (by kernel_rfl)) (fun _ _ _ h => h) (Or.inl ⟨by rfl, ?_⟩) ?_ ?_
  rotate_left
  · intro w'
    go_simp
    with_reducible rfl
  rotate_left
  · simp only [Act.put, List.setIfInBounds_toArray, List.set_cons_zero, List.set_cons_succ, i64_w, i32_w]
    rfl
  refine take_ (i := 7) (N := some 13) (v := ?_) (a' := ?_) #[true, true, true, true, false, false, true, true, false, false, true, false, false, false, false] rfl rfl (take_ofW HT_.out HW_.out (by kernel_rfl)) (fun _ _ _ h => h) (Or.inl ⟨by rfl, ?_⟩) hHeld ?_ ?_
  rotate_left
  · rintro w' ⟨s0, s1, s2, s3, s4, s5, s6⟩
    go_simp
    with_reducible rfl
  rotate_left
  · simp only [Act.put, List.setIfInBounds_toArray, List.set_cons_zero, List.set_cons_succ, i64_w, i32_w]
    rfl
  refine take_ (i := 11) (N := some 17) (v := ?_) (a' := ?_) #[true, true, true, true, false, false, true, true, false, false, true, true, false, false, false] rfl rfl (take_ofW HT_.out HW_.out (by kernel_rfl)) (fun _ _ _ h => h) (Or.inl ⟨by rfl, ?_⟩) hHeld ?_ ?_
  rotate_left
  · rintro w' ⟨s0, s1, s2, s3, s4, s5, s6⟩
    go_simp
    with_reducible rfl
  rotate_left
  · simp only [Act.put, List.setIfInBounds_toArray, List.set_cons_zero, List.set_cons_succ, i64_w, i32_w]
    rfl
  refine join_ (σ := Value) 2 #[true, true, true, true, true, true, true, true, true, true, true, true, true, false, false] (fun s_ => [(10, s_), (11, .string (strOfNums y246)), (14, .string t249), (18, .string t250), (15, .string ((strOfNums y246) ++ t249))]) (fun s_ w' => (w'.cell? ⟨gb240, 0, none⟩ = some (.int .i64 a0_0) ∧ w'.cell? ⟨gb240, 1, none⟩ = some (.string a0_1) ∧ w'.cell? ⟨gb240, 2, none⟩ = some (.bool false) ∧ w'.cell? ⟨gb240, 3, none⟩ = some (.int .u64 a0_3) ∧ w'.cell? ⟨gb240, 4, none⟩ = some (.int .u64 a0_4) ∧ w'.cell? ⟨gb240, 5, none⟩ = some (.int .u64 a0_5) ∧ w'.cell? ⟨gb240, 6, none⟩ = some (.int .u64 a0_6)) ∧ (Kd.R (Kd.int .u8) 5 w' w.heap.size (fun _ => True) s_ y246) ∧ (w'.heap[gb240]? = some (.cells #[.int .i64 a0_0, .string a0_1, .bool false, .int .u64 a0_3, .int .u64 a0_4, .int .u64 a0_5, .int .u64 a0_6] 48 (0, 0))) ∧ (Below w.heap.size w w')) ?_ ?_
  rotate_left
  · intro hJ4_5_8_12
    refine join_ (σ := Value) 3 #[true, true, true, true, true, true, true, true, true, true, true, true, false, false, false] (fun s_ => [(10, s_), (11, .string (strOfNums y246)), (14, .string t249), (15, .string ((strOfNums y246) ++ t249))]) (fun s_ w' => (w'.cell? ⟨gb240, 0, none⟩ = some (.int .i64 a0_0) ∧ w'.cell? ⟨gb240, 1, none⟩ = some (.string a0_1) ∧ w'.cell? ⟨gb240, 2, none⟩ = some (.bool false) ∧ w'.cell? ⟨gb240, 3, none⟩ = some (.int .u64 a0_3) ∧ w'.cell? ⟨gb240, 4, none⟩ = some (.int .u64 a0_4) ∧ w'.cell? ⟨gb240, 5, none⟩ = some (.int .u64 a0_5) ∧ w'.cell? ⟨gb240, 6, none⟩ = some (.int .u64 a0_6)) ∧ (Kd.R (Kd.int .u8) 5 w' w.heap.size (fun _ => True) s_ y246) ∧ (w'.heap[gb240]? = some (.cells #[.int .i64 a0_0, .string a0_1, .bool false, .int .u64 a0_3, .int .u64 a0_4, .int .u64 a0_5, .int .u64 a0_6] 48 (0, 0))) ∧ (Below w.heap.size w w')) ?_ ?_
    rotate_left
    · intro hJ4_5_8
      refine join_ (σ := Value) 4 #[true, true, true, true, true, false, true, true, true, false, true, true, true, false, false] (fun s_ => [(10, s_), (14, .string t249), (18, .string t250)]) (fun s_ w' => (w'.cell? ⟨gb240, 0, none⟩ = some (.int .i64 a0_0) ∧ w'.cell? ⟨gb240, 1, none⟩ = some (.string a0_1) ∧ w'.cell? ⟨gb240, 2, none⟩ = some (.bool false) ∧ w'.cell? ⟨gb240, 3, none⟩ = some (.int .u64 a0_3) ∧ w'.cell? ⟨gb240, 4, none⟩ = some (.int .u64 a0_4) ∧ w'.cell? ⟨gb240, 5, none⟩ = some (.int .u64 a0_5) ∧ w'.cell? ⟨gb240, 6, none⟩ = some (.int .u64 a0_6)) ∧ (Kd.R (Kd.int .u8) 5 w' w.heap.size (fun _ => True) s_ y246) ∧ (w'.heap[gb240]? = some (.cells #[.int .i64 a0_0, .string a0_1, .bool false, .int .u64 a0_3, .int .u64 a0_4, .int .u64 a0_5, .int .u64 a0_6] 48 (0, 0))) ∧ (Below w.heap.size w w')) ?_ ?_
      rotate_left
      · intro hJ4_8_12
        refine join_ (σ := Value) 5 #[true, true, true, true, true, true, true, true, false, false, true, true, false, false, false] (fun s_ => [(10, s_), (11, .string (strOfNums y246))]) (fun s_ w' => (w'.cell? ⟨gb240, 0, none⟩ = some (.int .i64 a0_0) ∧ w'.cell? ⟨gb240, 1, none⟩ = some (.string a0_1) ∧ w'.cell? ⟨gb240, 2, none⟩ = some (.bool false) ∧ w'.cell? ⟨gb240, 3, none⟩ = some (.int .u64 a0_3) ∧ w'.cell? ⟨gb240, 4, none⟩ = some (.int .u64 a0_4) ∧ w'.cell? ⟨gb240, 5, none⟩ = some (.int .u64 a0_5) ∧ w'.cell? ⟨gb240, 6, none⟩ = some (.int .u64 a0_6)) ∧ (Kd.R (Kd.int .u8) 5 w' w.heap.size (fun _ => True) s_ y246) ∧ (w'.heap[gb240]? = some (.cells #[.int .i64 a0_0, .string a0_1, .bool false, .int .u64 a0_3, .int .u64 a0_4, .int .u64 a0_5, .int .u64 a0_6] 48 (0, 0))) ∧ (Below w.heap.size w w')) ?_ ?_
        rotate_left
        · intro hJ4_5
          refine join_ (σ := Value) 5 #[true, true, true, true, true, false, true, true, true, false, true, true, false, false, false] (fun s_ => [(10, s_), (14, .string t249)]) (fun s_ w' => (w'.cell? ⟨gb240, 0, none⟩ = some (.int .i64 a0_0) ∧ w'.cell? ⟨gb240, 1, none⟩ = some (.string a0_1) ∧ w'.cell? ⟨gb240, 2, none⟩ = some (.bool false) ∧ w'.cell? ⟨gb240, 3, none⟩ = some (.int .u64 a0_3) ∧ w'.cell? ⟨gb240, 4, none⟩ = some (.int .u64 a0_4) ∧ w'.cell? ⟨gb240, 5, none⟩ = some (.int .u64 a0_5) ∧ w'.cell? ⟨gb240, 6, none⟩ = some (.int .u64 a0_6)) ∧ (Kd.R (Kd.int .u8) 5 w' w.heap.size (fun _ => True) s_ y246) ∧ (w'.heap[gb240]? = some (.cells #[.int .i64 a0_0, .string a0_1, .bool false, .int .u64 a0_3, .int .u64 a0_4, .int .u64 a0_5, .int .u64 a0_6] 48 (0, 0))) ∧ (Below w.heap.size w w')) ?_ ?_
          rotate_left
          · intro hJ4_8
            refine join_ (σ := Unit) 5 #[true, true, true, true, false, false, true, true, true, false, true, true, true, false, false] (fun s_ => [(14, .string t249), (18, .string t250)]) (fun s_ w' => (w'.cell? ⟨gb240, 0, none⟩ = some (.int .i64 a0_0) ∧ w'.cell? ⟨gb240, 1, none⟩ = some (.string a0_1) ∧ w'.cell? ⟨gb240, 2, none⟩ = some (.bool false) ∧ w'.cell? ⟨gb240, 3, none⟩ = some (.int .u64 a0_3) ∧ w'.cell? ⟨gb240, 4, none⟩ = some (.int .u64 a0_4) ∧ w'.cell? ⟨gb240, 5, none⟩ = some (.int .u64 a0_5) ∧ w'.cell? ⟨gb240, 6, none⟩ = some (.int .u64 a0_6)) ∧ (w'.heap[gb240]? = some (.cells #[.int .i64 a0_0, .string a0_1, .bool false, .int .u64 a0_3, .int .u64 a0_4, .int .u64 a0_5, .int .u64 a0_6] 48 (0, 0))) ∧ (Below w.heap.size w w')) ?_ ?_
            rotate_left
            · intro hJ8_12
              refine join_ (σ := Value) 6 #[true, true, true, true, true, false, true, true, false, false, true, true, false, false, false] (fun s_ => [(10, s_)]) (fun s_ w' => (w'.cell? ⟨gb240, 0, none⟩ = some (.int .i64 a0_0) ∧ w'.cell? ⟨gb240, 1, none⟩ = some (.string a0_1) ∧ w'.cell? ⟨gb240, 2, none⟩ = some (.bool false) ∧ w'.cell? ⟨gb240, 3, none⟩ = some (.int .u64 a0_3) ∧ w'.cell? ⟨gb240, 4, none⟩ = some (.int .u64 a0_4) ∧ w'.cell? ⟨gb240, 5, none⟩ = some (.int .u64 a0_5) ∧ w'.cell? ⟨gb240, 6, none⟩ = some (.int .u64 a0_6)) ∧ (Kd.R (Kd.int .u8) 5 w' w.heap.size (fun _ => True) s_ y246) ∧ (w'.heap[gb240]? = some (.cells #[.int .i64 a0_0, .string a0_1, .bool false, .int .u64 a0_3, .int .u64 a0_4, .int .u64 a0_5, .int .u64 a0_6] 48 (0, 0))) ∧ (Below w.heap.size w w')) ?_ ?_
              rotate_left
              · intro hJ4
                refine join_ (σ := Unit) 6 #[true, true, true, true, false, false, true, true, true, false, true, true, false, false, false] (fun s_ => [(14, .string t249)]) (fun s_ w' => (w'.cell? ⟨gb240, 0, none⟩ = some (.int .i64 a0_0) ∧ w'.cell? ⟨gb240, 1, none⟩ = some (.string a0_1) ∧ w'.cell? ⟨gb240, 2, none⟩ = some (.bool false) ∧ w'.cell? ⟨gb240, 3, none⟩ = some (.int .u64 a0_3) ∧ w'.cell? ⟨gb240, 4, none⟩ = some (.int .u64 a0_4) ∧ w'.cell? ⟨gb240, 5, none⟩ = some (.int .u64 a0_5) ∧ w'.cell? ⟨gb240, 6, none⟩ = some (.int .u64 a0_6)) ∧ (w'.heap[gb240]? = some (.cells #[.int .i64 a0_0, .string a0_1, .bool false, .int .u64 a0_3, .int .u64 a0_4, .int .u64 a0_5, .int .u64 a0_6] 48 (0, 0))) ∧ (Below w.heap.size w w')) ?_ ?_
                rotate_left
                · intro hJ8
                  refine two_ (i := 4) (j := 8) (Ni := some 10) (Nj := some 14) #[true, true, true, true, true, false, true, true, false, false, true, true, false, false, false] #[true, true, true, true, false, false, true, true, true, false, true, true, false, false, false] rfl rfl rfl rfl (two_of HT_.out (by kernel_rfl)) (by decide) (by decide) (fun K hK => ?_) (fun K hK => ?_)
                  · skip
                    refine Kd.R_lit_step (Kd.int .u8) _ 5 ?hg (N := 10) ?hd (xs := ([(a0_0) % 256, 0] : List Int)) (inner := [.int .u8 ((a0_0) % 256), .int .u8 0]) (ok := fun _ => True) (okp := fun _ => True) ?hr ?hp (fun _ hk => hk) trivial (Below.refl _ _) (Nat.le_refl _) (by simp) ?_; (case hd => rfl); (case hg => rfl); (case hr => first | (go_simp; done) | (go_simp; rfl)); (case hp => exact (Reps.one (show Kd.M (Kd.int .u8) _ _ _ ((a0_0) % 256) [.int .u8 ((a0_0) % 256)] from rfl) (Reps.one (show Kd.M (Kd.int .u8) _ _ _ 0 [.int .u8 0] from rfl) (Reps.none _ _))))
                    intro v247 w23 ho24 hb hg_ hnew_
                    clear hg_ hnew_
                    (first | rw [← Ny246.out] at ho24 | (simp only [Int.reduceToNat] at ho24; rw [← Ny246.out] at ho24))
                    have HO248 := Aside0.mk (Kd.R_lower ho24 (below_size (Kz_ HB GE240)))
                    replace BK240 := Kb_ BK240 hb
                    replace HB := Ks_ HB hb
                    clear hb ho24
                    refine hK.out _ _ (Kc7_ BK240.out) (fun hHeld => ?_)
                    clear hK K
                    refine norm_ (a' := ?_) ?_ ?_
                    rotate_left
                    · show Act.put _ (some 10) _ = _
                      simp only [Act.put, List.setIfInBounds_toArray, List.set_cons_zero, List.set_cons_succ, i64_w, i32_w]
                      rfl
                    exact norm_ (by first | (simp only [putAll, Act.put, List.setIfInBounds_toArray, List.set_cons_zero, List.set_cons_succ]; done) | (simp only [putAll, Act.put, List.setIfInBounds_toArray, List.set_cons_zero, List.set_cons_succ]; rfl)) (hJ4 (v247) _ ⟨hHeld, (by (with_reducible repeat (first | apply Kd.R_alloc | apply Kd.R_drewN | apply Kd.R_drew)); exact HO248.out), (Kq_ BK240), (Kz_ HB GE240)⟩)
                  · skip
                    refine goes_ Try.func28 (by kernel_rfl) rfl #[.string a0_1] (by rfl) rfl rfl (by (try simp only [List.map_toArray, List.map_cons, List.map_nil]); first | done | rfl | (simp only [List.length_drop, List.length_take]; rfl)) ?_
                    with_reducible refine (tenementref02_Text.calls k a0_1 t249 _ A16.out).mono ?_
                    rintro e w23 ⟨rfl, hb⟩
                    refine ⟨_, rfl, ?_⟩
                    replace BK240 := Kb_ BK240 hb
                    replace HB := Ks_ HB hb
                    (try clear hb)
                    (try clear hb2)
                    (try clear hk)
                    (try clear hi)
                    refine hK.out _ _ (Kc7_ BK240.out) (fun hHeld => ?_)
                    clear hK K
                    refine norm_ (a' := ?_) ?_ ?_
                    rotate_left
                    · show Act.put _ (some 14) _ = _
                      simp only [Act.put, List.setIfInBounds_toArray, List.set_cons_zero, List.set_cons_succ, i64_w, i32_w]
                      rfl
                    exact norm_ (by first | (simp only [putAll, Act.put, List.setIfInBounds_toArray, List.set_cons_zero, List.set_cons_succ]; done) | (simp only [putAll, Act.put, List.setIfInBounds_toArray, List.set_cons_zero, List.set_cons_succ]; rfl)) (hJ8 () _ ⟨hHeld, (Kq_ BK240), (Kz_ HB GE240)⟩)
                · skip
                  rintro _ w24 ⟨hS_, h0_, h1_⟩
                  have n0_ : Aside0 (w24.heap[gb240]? = some (.cells #[.int .i64 a0_0, .string a0_1, .bool false, .int .u64 a0_3, .int .u64 a0_4, .int .u64 a0_5, .int .u64 a0_6] 48 (0, 0))) := ⟨h0_⟩
                  have n1_ : Aside0 (Below w.heap.size w w24) := ⟨h1_⟩
                  clear BK240
                  clear HB
                  clear h0_ h1_
                  have BK240 := n0_
                  have HB := n1_
                  clear n0_ n1_
                  have hHeld : w24.cell? ⟨gb240, 0, none⟩ = some (.int .i64 a0_0) ∧ w24.cell? ⟨gb240, 1, none⟩ = some (.string a0_1) ∧ w24.cell? ⟨gb240, 2, none⟩ = some (.bool false) ∧ w24.cell? ⟨gb240, 3, none⟩ = some (.int .u64 a0_3) ∧ w24.cell? ⟨gb240, 4, none⟩ = some (.int .u64 a0_4) ∧ w24.cell? ⟨gb240, 5, none⟩ = some (.int .u64 a0_5) ∧ w24.cell? ⟨gb240, 6, none⟩ = some (.int .u64 a0_6) := hS_
                  refine norm_ (a' := ?_) ?_ ?_
                  rotate_left
                  · simp only [putAll, Act.put, List.setIfInBounds_toArray, List.set_cons_zero, List.set_cons_succ]
                    rfl
                  refine two_ (i := 4) (j := 12) (Ni := some 10) (Nj := some 18) #[true, true, true, true, true, false, true, true, true, false, true, true, false, false, false] #[true, true, true, true, false, false, true, true, true, false, true, true, true, false, false] rfl rfl rfl rfl (two_of HT_.out (by kernel_rfl)) (by decide) (by decide) (fun K hK => ?_) (fun K hK => ?_)
                  · skip
                    refine Kd.R_lit_step (Kd.int .u8) _ 5 ?hg (N := 10) ?hd (xs := ([(a0_0) % 256, 0] : List Int)) (inner := [.int .u8 ((a0_0) % 256), .int .u8 0]) (ok := fun _ => True) (okp := fun _ => True) ?hr ?hp (fun _ hk => hk) trivial (Below.refl _ _) (Nat.le_refl _) (by simp) ?_; (case hd => rfl); (case hg => rfl); (case hr => first | (go_simp; done) | (go_simp; rfl)); (case hp => exact (Reps.one (show Kd.M (Kd.int .u8) _ _ _ ((a0_0) % 256) [.int .u8 ((a0_0) % 256)] from rfl) (Reps.one (show Kd.M (Kd.int .u8) _ _ _ 0 [.int .u8 0] from rfl) (Reps.none _ _))))
                    intro v247 w25 ho26 hb hg_ hnew_
                    clear hg_ hnew_
                    (first | rw [← Ny246.out] at ho26 | (simp only [Int.reduceToNat] at ho26; rw [← Ny246.out] at ho26))
                    have HO248 := Aside0.mk (Kd.R_lower ho26 (below_size (Kz_ HB GE240)))
                    replace BK240 := Kb_ BK240 hb
                    replace HB := Ks_ HB hb
                    clear hb ho26
                    refine hK.out _ _ (Kc7_ BK240.out) (fun hHeld => ?_)
                    clear hK K
                    refine norm_ (a' := ?_) ?_ ?_
                    rotate_left
                    · show Act.put _ (some 10) _ = _
                      simp only [Act.put, List.setIfInBounds_toArray, List.set_cons_zero, List.set_cons_succ, i64_w, i32_w]
                      rfl
                    exact norm_ (by first | (simp only [putAll, Act.put, List.setIfInBounds_toArray, List.set_cons_zero, List.set_cons_succ]; done) | (simp only [putAll, Act.put, List.setIfInBounds_toArray, List.set_cons_zero, List.set_cons_succ]; rfl)) (hJ4_8 (v247) _ ⟨hHeld, (by (with_reducible repeat (first | apply Kd.R_alloc | apply Kd.R_drewN | apply Kd.R_drew)); exact HO248.out), (Kq_ BK240), (Kz_ HB GE240)⟩)
                  · skip
                    refine goes_ Try.func35 (by kernel_rfl) rfl #[.agg #[.int .u64 a0_3, .int .u64 a0_4, .int .u64 a0_5, .int .u64 a0_6]] (by rfl) rfl rfl (by (try simp only [List.map_toArray, List.map_cons, List.map_nil]); first | done | rfl | (simp only [List.length_drop, List.length_take]; rfl)) ?_
                    with_reducible refine (tenementref06_Put.calls k a0_3 a0_4 a0_5 a0_6 t250 _ A18.out).mono ?_
                    rintro e w25 ⟨rfl, hb⟩
                    refine ⟨_, rfl, ?_⟩
                    replace BK240 := Kb_ BK240 hb
                    replace HB := Ks_ HB hb
                    (try clear hb)
                    (try clear hb2)
                    (try clear hk)
                    (try clear hi)
                    refine hK.out _ _ (Kc7_ BK240.out) (fun hHeld => ?_)
                    clear hK K
                    refine norm_ (a' := ?_) ?_ ?_
                    rotate_left
                    · show Act.put _ (some 18) _ = _
                      simp only [Act.put, List.setIfInBounds_toArray, List.set_cons_zero, List.set_cons_succ, i64_w, i32_w]
                      rfl
                    exact norm_ (by first | (simp only [putAll, Act.put, List.setIfInBounds_toArray, List.set_cons_zero, List.set_cons_succ]; done) | (simp only [putAll, Act.put, List.setIfInBounds_toArray, List.set_cons_zero, List.set_cons_succ]; rfl)) (hJ8_12 () _ ⟨hHeld, (Kq_ BK240), (Kz_ HB GE240)⟩)
              · skip
                rintro v247 w25 ⟨hS_, h0_, h1_, h2_⟩
                have n0_ : Aside0 (Kd.R (Kd.int .u8) 5 w25 w.heap.size (fun _ => True) v247 y246) := ⟨h0_⟩
                have n1_ : Aside0 (w25.heap[gb240]? = some (.cells #[.int .i64 a0_0, .string a0_1, .bool false, .int .u64 a0_3, .int .u64 a0_4, .int .u64 a0_5, .int .u64 a0_6] 48 (0, 0))) := ⟨h1_⟩
                have n2_ : Aside0 (Below w.heap.size w w25) := ⟨h2_⟩
                clear BK240
                clear HB
                clear h0_ h1_ h2_
                have HO248 := n0_
                have BK240 := n1_
                have HB := n2_
                clear n0_ n1_ n2_
                have hHeld : w25.cell? ⟨gb240, 0, none⟩ = some (.int .i64 a0_0) ∧ w25.cell? ⟨gb240, 1, none⟩ = some (.string a0_1) ∧ w25.cell? ⟨gb240, 2, none⟩ = some (.bool false) ∧ w25.cell? ⟨gb240, 3, none⟩ = some (.int .u64 a0_3) ∧ w25.cell? ⟨gb240, 4, none⟩ = some (.int .u64 a0_4) ∧ w25.cell? ⟨gb240, 5, none⟩ = some (.int .u64 a0_5) ∧ w25.cell? ⟨gb240, 6, none⟩ = some (.int .u64 a0_6) := hS_
                refine norm_ (a' := ?_) ?_ ?_
                rotate_left
                · simp only [putAll, Act.put, List.setIfInBounds_toArray, List.set_cons_zero, List.set_cons_succ]
                  rfl
                refine two_ (i := 5) (j := 8) (Ni := some 11) (Nj := some 14) #[true, true, true, true, true, true, true, true, false, false, true, true, false, false, false] #[true, true, true, true, true, false, true, true, true, false, true, true, false, false, false] rfl rfl rfl rfl (two_of HT_.out (by kernel_rfl)) (by decide) (by decide) (fun K hK => ?_) (fun K hK => ?_)
                · skip
                  have hcv26 := own_string (P := Try.prog) Try.underlying66 Try.underlying5 Try.underlying9 (Kd.own_of_R HO248.out)
                  refine value_ (w1 := ?_) (v := ?_) (by rfl) rfl ?_ ?_
                  rotate_left 2
                  · go_simp
                    constructor
                    · rfl
                    · rfl
                  clear hcv26
                  refine hK.out _ _ (Kc7_ BK240.out) (fun hHeld => ?_)
                  clear hK K
                  refine norm_ (a' := ?_) ?_ ?_
                  rotate_left
                  · show Act.put _ (some 11) _ = _
                    simp only [Act.put, List.setIfInBounds_toArray, List.set_cons_zero, List.set_cons_succ, i64_w, i32_w]
                    rfl
                  exact norm_ (by first | (simp only [putAll, Act.put, List.setIfInBounds_toArray, List.set_cons_zero, List.set_cons_succ]; done) | (simp only [putAll, Act.put, List.setIfInBounds_toArray, List.set_cons_zero, List.set_cons_succ]; rfl)) (hJ4_5 (v247) _ ⟨hHeld, (by (with_reducible repeat (first | apply Kd.R_alloc | apply Kd.R_drewN | apply Kd.R_drew)); exact HO248.out), (Kq_ BK240), (Kz_ HB GE240)⟩)
                · skip
                  refine goes_ Try.func28 (by kernel_rfl) rfl #[.string a0_1] (by rfl) rfl rfl (by (try simp only [List.map_toArray, List.map_cons, List.map_nil]); first | done | rfl | (simp only [List.length_drop, List.length_take]; rfl)) ?_
                  with_reducible refine (tenementref02_Text.calls k a0_1 t249 _ A16.out).mono ?_
                  rintro e w26 ⟨rfl, hb⟩
                  refine ⟨_, rfl, ?_⟩
                  replace HO248 := Aside0.mk (Kd.R_below (by (with_reducible repeat (first | apply Kd.R_alloc | apply Kd.R_drewN | apply Kd.R_drew)); exact HO248.out) hb)
                  replace BK240 := Kb_ BK240 hb
                  replace HB := Ks_ HB hb
                  (try clear hb)
                  (try clear hb2)
                  (try clear hk)
                  (try clear hi)
                  refine hK.out _ _ (Kc7_ BK240.out) (fun hHeld => ?_)
                  clear hK K
                  refine norm_ (a' := ?_) ?_ ?_
                  rotate_left
                  · show Act.put _ (some 14) _ = _
                    simp only [Act.put, List.setIfInBounds_toArray, List.set_cons_zero, List.set_cons_succ, i64_w, i32_w]
                    rfl
                  exact norm_ (by first | (simp only [putAll, Act.put, List.setIfInBounds_toArray, List.set_cons_zero, List.set_cons_succ]; done) | (simp only [putAll, Act.put, List.setIfInBounds_toArray, List.set_cons_zero, List.set_cons_succ]; rfl)) (hJ4_8 (v247) _ ⟨hHeld, (by (with_reducible repeat (first | apply Kd.R_alloc | apply Kd.R_drewN | apply Kd.R_drew)); exact HO248.out), (Kq_ BK240), (Kz_ HB GE240)⟩)
            · skip
              rintro _ w25 ⟨hS_, h0_, h1_⟩
              have n0_ : Aside0 (w25.heap[gb240]? = some (.cells #[.int .i64 a0_0, .string a0_1, .bool false, .int .u64 a0_3, .int .u64 a0_4, .int .u64 a0_5, .int .u64 a0_6] 48 (0, 0))) := ⟨h0_⟩
              have n1_ : Aside0 (Below w.heap.size w w25) := ⟨h1_⟩
              clear BK240
              clear HB
              clear h0_ h1_
              have BK240 := n0_
              have HB := n1_
              clear n0_ n1_
              have hHeld : w25.cell? ⟨gb240, 0, none⟩ = some (.int .i64 a0_0) ∧ w25.cell? ⟨gb240, 1, none⟩ = some (.string a0_1) ∧ w25.cell? ⟨gb240, 2, none⟩ = some (.bool false) ∧ w25.cell? ⟨gb240, 3, none⟩ = some (.int .u64 a0_3) ∧ w25.cell? ⟨gb240, 4, none⟩ = some (.int .u64 a0_4) ∧ w25.cell? ⟨gb240, 5, none⟩ = some (.int .u64 a0_5) ∧ w25.cell? ⟨gb240, 6, none⟩ = some (.int .u64 a0_6) := hS_
              refine norm_ (a' := ?_) ?_ ?_
              rotate_left
              · simp only [putAll, Act.put, List.setIfInBounds_toArray, List.set_cons_zero, List.set_cons_succ]
                rfl
              refine one_ (i := 4) (N := some 10) #[true, true, true, true, true, false, true, true, true, false, true, true, true, false, false] rfl rfl (one_of HT_.out (by kernel_rfl)) (by decide) (fun K hK => ?_)
              refine Kd.R_lit_step (Kd.int .u8) _ 5 ?hg (N := 10) ?hd (xs := ([(a0_0) % 256, 0] : List Int)) (inner := [.int .u8 ((a0_0) % 256), .int .u8 0]) (ok := fun _ => True) (okp := fun _ => True) ?hr ?hp (fun _ hk => hk) trivial (Below.refl _ _) (Nat.le_refl _) (by simp) ?_; (case hd => rfl); (case hg => rfl); (case hr => first | (go_simp; done) | (go_simp; rfl)); (case hp => exact (Reps.one (show Kd.M (Kd.int .u8) _ _ _ ((a0_0) % 256) [.int .u8 ((a0_0) % 256)] from rfl) (Reps.one (show Kd.M (Kd.int .u8) _ _ _ 0 [.int .u8 0] from rfl) (Reps.none _ _))))
              intro v247 w26 ho27 hb hg_ hnew_
              clear hg_ hnew_
              (first | rw [← Ny246.out] at ho27 | (simp only [Int.reduceToNat] at ho27; rw [← Ny246.out] at ho27))
              have HO248 := Aside0.mk (Kd.R_lower ho27 (below_size (Kz_ HB GE240)))
              replace BK240 := Kb_ BK240 hb
              replace HB := Ks_ HB hb
              clear hb ho27
              refine hK.out _ _ (Kc7_ BK240.out) (fun hHeld => ?_)
              clear hK K
              refine norm_ (a' := ?_) ?_ ?_
              rotate_left
              · show Act.put _ (some 10) _ = _
                simp only [Act.put, List.setIfInBounds_toArray, List.set_cons_zero, List.set_cons_succ, i64_w, i32_w]
                rfl
              exact norm_ (by first | (simp only [putAll, Act.put, List.setIfInBounds_toArray, List.set_cons_zero, List.set_cons_succ]; done) | (simp only [putAll, Act.put, List.setIfInBounds_toArray, List.set_cons_zero, List.set_cons_succ]; rfl)) (hJ4_8_12 (v247) _ ⟨hHeld, (by (with_reducible repeat (first | apply Kd.R_alloc | apply Kd.R_drewN | apply Kd.R_drew)); exact HO248.out), (Kq_ BK240), (Kz_ HB GE240)⟩)
          · skip
            rintro v247 w26 ⟨hS_, h0_, h1_, h2_⟩
            have n0_ : Aside0 (Kd.R (Kd.int .u8) 5 w26 w.heap.size (fun _ => True) v247 y246) := ⟨h0_⟩
            have n1_ : Aside0 (w26.heap[gb240]? = some (.cells #[.int .i64 a0_0, .string a0_1, .bool false, .int .u64 a0_3, .int .u64 a0_4, .int .u64 a0_5, .int .u64 a0_6] 48 (0, 0))) := ⟨h1_⟩
            have n2_ : Aside0 (Below w.heap.size w w26) := ⟨h2_⟩
            clear BK240
            clear HB
            clear h0_ h1_ h2_
            have HO248 := n0_
            have BK240 := n1_
            have HB := n2_
            clear n0_ n1_ n2_
            have hHeld : w26.cell? ⟨gb240, 0, none⟩ = some (.int .i64 a0_0) ∧ w26.cell? ⟨gb240, 1, none⟩ = some (.string a0_1) ∧ w26.cell? ⟨gb240, 2, none⟩ = some (.bool false) ∧ w26.cell? ⟨gb240, 3, none⟩ = some (.int .u64 a0_3) ∧ w26.cell? ⟨gb240, 4, none⟩ = some (.int .u64 a0_4) ∧ w26.cell? ⟨gb240, 5, none⟩ = some (.int .u64 a0_5) ∧ w26.cell? ⟨gb240, 6, none⟩ = some (.int .u64 a0_6) := hS_
            refine norm_ (a' := ?_) ?_ ?_
            rotate_left
            · simp only [putAll, Act.put, List.setIfInBounds_toArray, List.set_cons_zero, List.set_cons_succ]
              rfl
            refine two_ (i := 5) (j := 12) (Ni := some 11) (Nj := some 18) #[true, true, true, true, true, true, true, true, true, false, true, true, false, false, false] #[true, true, true, true, true, false, true, true, true, false, true, true, true, false, false] rfl rfl rfl rfl (two_of HT_.out (by kernel_rfl)) (by decide) (by decide) (fun K hK => ?_) (fun K hK => ?_)
            · skip
              have hcv27 := own_string (P := Try.prog) Try.underlying66 Try.underlying5 Try.underlying9 (Kd.own_of_R HO248.out)
              refine value_ (w1 := ?_) (v := ?_) (by rfl) rfl ?_ ?_
              rotate_left 2
              · go_simp
                constructor
                · rfl
                · rfl
              clear hcv27
              refine hK.out _ _ (Kc7_ BK240.out) (fun hHeld => ?_)
              clear hK K
              refine norm_ (a' := ?_) ?_ ?_
              rotate_left
              · show Act.put _ (some 11) _ = _
                simp only [Act.put, List.setIfInBounds_toArray, List.set_cons_zero, List.set_cons_succ, i64_w, i32_w]
                rfl
              refine pure_ (i := 9) (N := some 15) (v := ?_) (a' := ?_) #[true, true, true, true, true, true, true, true, true, true, true, true, false, false, false] rfl rfl (any_of HT_.out (by kernel_rfl)) (fun _ _ _ h => h) (Or.inl ⟨by rfl, ?_⟩) ?_ ?_
              rotate_left
              · intro w'
                go_simp
                with_reducible rfl
              rotate_left
              · simp only [Act.put, List.setIfInBounds_toArray, List.set_cons_zero, List.set_cons_succ, i64_w, i32_w]
                rfl
              exact norm_ (by first | (simp only [putAll, Act.put, List.setIfInBounds_toArray, List.set_cons_zero, List.set_cons_succ]; done) | (simp only [putAll, Act.put, List.setIfInBounds_toArray, List.set_cons_zero, List.set_cons_succ]; rfl)) (hJ4_5_8 (v247) _ ⟨hHeld, (by (with_reducible repeat (first | apply Kd.R_alloc | apply Kd.R_drewN | apply Kd.R_drew)); exact HO248.out), (Kq_ BK240), (Kz_ HB GE240)⟩)
            · skip
              refine goes_ Try.func35 (by kernel_rfl) rfl #[.agg #[.int .u64 a0_3, .int .u64 a0_4, .int .u64 a0_5, .int .u64 a0_6]] (by rfl) rfl rfl (by (try simp only [List.map_toArray, List.map_cons, List.map_nil]); first | done | rfl | (simp only [List.length_drop, List.length_take]; rfl)) ?_
              with_reducible refine (tenementref06_Put.calls k a0_3 a0_4 a0_5 a0_6 t250 _ A18.out).mono ?_
              rintro e w27 ⟨rfl, hb⟩
              refine ⟨_, rfl, ?_⟩
              replace HO248 := Aside0.mk (Kd.R_below (by (with_reducible repeat (first | apply Kd.R_alloc | apply Kd.R_drewN | apply Kd.R_drew)); exact HO248.out) hb)
              replace BK240 := Kb_ BK240 hb
              replace HB := Ks_ HB hb
              (try clear hb)
              (try clear hb2)
              (try clear hk)
              (try clear hi)
              refine hK.out _ _ (Kc7_ BK240.out) (fun hHeld => ?_)
              clear hK K
              refine norm_ (a' := ?_) ?_ ?_
              rotate_left
              · show Act.put _ (some 18) _ = _
                simp only [Act.put, List.setIfInBounds_toArray, List.set_cons_zero, List.set_cons_succ, i64_w, i32_w]
                rfl
              exact norm_ (by first | (simp only [putAll, Act.put, List.setIfInBounds_toArray, List.set_cons_zero, List.set_cons_succ]; done) | (simp only [putAll, Act.put, List.setIfInBounds_toArray, List.set_cons_zero, List.set_cons_succ]; rfl)) (hJ4_8_12 (v247) _ ⟨hHeld, (by (with_reducible repeat (first | apply Kd.R_alloc | apply Kd.R_drewN | apply Kd.R_drew)); exact HO248.out), (Kq_ BK240), (Kz_ HB GE240)⟩)
        · skip
          rintro v247 w26 ⟨hS_, h0_, h1_, h2_⟩
          have n0_ : Aside0 (Kd.R (Kd.int .u8) 5 w26 w.heap.size (fun _ => True) v247 y246) := ⟨h0_⟩
          have n1_ : Aside0 (w26.heap[gb240]? = some (.cells #[.int .i64 a0_0, .string a0_1, .bool false, .int .u64 a0_3, .int .u64 a0_4, .int .u64 a0_5, .int .u64 a0_6] 48 (0, 0))) := ⟨h1_⟩
          have n2_ : Aside0 (Below w.heap.size w w26) := ⟨h2_⟩
          clear BK240
          clear HB
          clear h0_ h1_ h2_
          have HO248 := n0_
          have BK240 := n1_
          have HB := n2_
          clear n0_ n1_ n2_
          have hHeld : w26.cell? ⟨gb240, 0, none⟩ = some (.int .i64 a0_0) ∧ w26.cell? ⟨gb240, 1, none⟩ = some (.string a0_1) ∧ w26.cell? ⟨gb240, 2, none⟩ = some (.bool false) ∧ w26.cell? ⟨gb240, 3, none⟩ = some (.int .u64 a0_3) ∧ w26.cell? ⟨gb240, 4, none⟩ = some (.int .u64 a0_4) ∧ w26.cell? ⟨gb240, 5, none⟩ = some (.int .u64 a0_5) ∧ w26.cell? ⟨gb240, 6, none⟩ = some (.int .u64 a0_6) := hS_
          refine norm_ (a' := ?_) ?_ ?_
          rotate_left
          · simp only [putAll, Act.put, List.setIfInBounds_toArray, List.set_cons_zero, List.set_cons_succ]
            rfl
          refine one_ (i := 8) (N := some 14) #[true, true, true, true, true, true, true, true, true, false, true, true, false, false, false] rfl rfl (one_of HT_.out (by kernel_rfl)) (by decide) (fun K hK => ?_)
          refine goes_ Try.func28 (by kernel_rfl) rfl #[.string a0_1] (by rfl) rfl rfl (by (try simp only [List.map_toArray, List.map_cons, List.map_nil]); first | done | rfl | (simp only [List.length_drop, List.length_take]; rfl)) ?_
          with_reducible refine (tenementref02_Text.calls k a0_1 t249 _ A16.out).mono ?_
          rintro e w27 ⟨rfl, hb⟩
          refine ⟨_, rfl, ?_⟩
          replace HO248 := Aside0.mk (Kd.R_below (by (with_reducible repeat (first | apply Kd.R_alloc | apply Kd.R_drewN | apply Kd.R_drew)); exact HO248.out) hb)
          replace BK240 := Kb_ BK240 hb
          replace HB := Ks_ HB hb
          (try clear hb)
          (try clear hb2)
          (try clear hk)
          (try clear hi)
          refine hK.out _ _ (Kc7_ BK240.out) (fun hHeld => ?_)
          clear hK K
          refine norm_ (a' := ?_) ?_ ?_
          rotate_left
          · show Act.put _ (some 14) _ = _
            simp only [Act.put, List.setIfInBounds_toArray, List.set_cons_zero, List.set_cons_succ, i64_w, i32_w]
            rfl
          refine pure_ (i := 9) (N := some 15) (v := ?_) (a' := ?_) #[true, true, true, true, true, true, true, true, true, true, true, true, false, false, false] rfl rfl (any_of HT_.out (by kernel_rfl)) (fun _ _ _ h => h) (Or.inl ⟨by rfl, ?_⟩) ?_ ?_
          rotate_left
          · intro w'
            go_simp
            with_reducible rfl
          rotate_left
          · simp only [Act.put, List.setIfInBounds_toArray, List.set_cons_zero, List.set_cons_succ, i64_w, i32_w]
            rfl
          exact norm_ (by first | (simp only [putAll, Act.put, List.setIfInBounds_toArray, List.set_cons_zero, List.set_cons_succ]; done) | (simp only [putAll, Act.put, List.setIfInBounds_toArray, List.set_cons_zero, List.set_cons_succ]; rfl)) (hJ4_5_8 (v247) _ ⟨hHeld, (by (with_reducible repeat (first | apply Kd.R_alloc | apply Kd.R_drewN | apply Kd.R_drew)); exact HO248.out), (Kq_ BK240), (Kz_ HB GE240)⟩)
      · skip
        rintro v247 w27 ⟨hS_, h0_, h1_, h2_⟩
        have n0_ : Aside0 (Kd.R (Kd.int .u8) 5 w27 w.heap.size (fun _ => True) v247 y246) := ⟨h0_⟩
        have n1_ : Aside0 (w27.heap[gb240]? = some (.cells #[.int .i64 a0_0, .string a0_1, .bool false, .int .u64 a0_3, .int .u64 a0_4, .int .u64 a0_5, .int .u64 a0_6] 48 (0, 0))) := ⟨h1_⟩
        have n2_ : Aside0 (Below w.heap.size w w27) := ⟨h2_⟩
        clear BK240
        clear HB
        clear h0_ h1_ h2_
        have HO248 := n0_
        have BK240 := n1_
        have HB := n2_
        clear n0_ n1_ n2_
        have hHeld : w27.cell? ⟨gb240, 0, none⟩ = some (.int .i64 a0_0) ∧ w27.cell? ⟨gb240, 1, none⟩ = some (.string a0_1) ∧ w27.cell? ⟨gb240, 2, none⟩ = some (.bool false) ∧ w27.cell? ⟨gb240, 3, none⟩ = some (.int .u64 a0_3) ∧ w27.cell? ⟨gb240, 4, none⟩ = some (.int .u64 a0_4) ∧ w27.cell? ⟨gb240, 5, none⟩ = some (.int .u64 a0_5) ∧ w27.cell? ⟨gb240, 6, none⟩ = some (.int .u64 a0_6) := hS_
        refine norm_ (a' := ?_) ?_ ?_
        rotate_left
        · simp only [putAll, Act.put, List.setIfInBounds_toArray, List.set_cons_zero, List.set_cons_succ]
          rfl
        refine one_ (i := 5) (N := some 11) #[true, true, true, true, true, true, true, true, true, false, true, true, true, false, false] rfl rfl (one_of HT_.out (by kernel_rfl)) (by decide) (fun K hK => ?_)
        have hcv28 := own_string (P := Try.prog) Try.underlying66 Try.underlying5 Try.underlying9 (Kd.own_of_R HO248.out)
        refine value_ (w1 := ?_) (v := ?_) (by rfl) rfl ?_ ?_
        rotate_left 2
        · go_simp
          constructor
          · rfl
          · rfl
        clear hcv28
        refine hK.out _ _ (Kc7_ BK240.out) (fun hHeld => ?_)
        clear hK K
        refine norm_ (a' := ?_) ?_ ?_
        rotate_left
        · show Act.put _ (some 11) _ = _
          simp only [Act.put, List.setIfInBounds_toArray, List.set_cons_zero, List.set_cons_succ, i64_w, i32_w]
          rfl
        refine pure_ (i := 9) (N := some 15) (v := ?_) (a' := ?_) #[true, true, true, true, true, true, true, true, true, true, true, true, true, false, false] rfl rfl (any_of HT_.out (by kernel_rfl)) (fun _ _ _ h => h) (Or.inl ⟨by rfl, ?_⟩) ?_ ?_
        rotate_left
        · intro w'
          go_simp
          with_reducible rfl
        rotate_left
        · simp only [Act.put, List.setIfInBounds_toArray, List.set_cons_zero, List.set_cons_succ, i64_w, i32_w]
          rfl
        exact norm_ (by first | (simp only [putAll, Act.put, List.setIfInBounds_toArray, List.set_cons_zero, List.set_cons_succ]; done) | (simp only [putAll, Act.put, List.setIfInBounds_toArray, List.set_cons_zero, List.set_cons_succ]; rfl)) (hJ4_5_8_12 (v247) _ ⟨hHeld, (by (with_reducible repeat (first | apply Kd.R_alloc | apply Kd.R_drewN | apply Kd.R_drew)); exact HO248.out), (Kq_ BK240), (Kz_ HB GE240)⟩)
    · skip
      rintro v247 w27 ⟨hS_, h0_, h1_, h2_⟩
      have n0_ : Aside0 (Kd.R (Kd.int .u8) 5 w27 w.heap.size (fun _ => True) v247 y246) := ⟨h0_⟩
      have n1_ : Aside0 (w27.heap[gb240]? = some (.cells #[.int .i64 a0_0, .string a0_1, .bool false, .int .u64 a0_3, .int .u64 a0_4, .int .u64 a0_5, .int .u64 a0_6] 48 (0, 0))) := ⟨h1_⟩
      have n2_ : Aside0 (Below w.heap.size w w27) := ⟨h2_⟩
      clear BK240
      clear HB
      clear h0_ h1_ h2_
      have HO248 := n0_
      have BK240 := n1_
      have HB := n2_
      clear n0_ n1_ n2_
      have hHeld : w27.cell? ⟨gb240, 0, none⟩ = some (.int .i64 a0_0) ∧ w27.cell? ⟨gb240, 1, none⟩ = some (.string a0_1) ∧ w27.cell? ⟨gb240, 2, none⟩ = some (.bool false) ∧ w27.cell? ⟨gb240, 3, none⟩ = some (.int .u64 a0_3) ∧ w27.cell? ⟨gb240, 4, none⟩ = some (.int .u64 a0_4) ∧ w27.cell? ⟨gb240, 5, none⟩ = some (.int .u64 a0_5) ∧ w27.cell? ⟨gb240, 6, none⟩ = some (.int .u64 a0_6) := hS_
      refine norm_ (a' := ?_) ?_ ?_
      rotate_left
      · simp only [putAll, Act.put, List.setIfInBounds_toArray, List.set_cons_zero, List.set_cons_succ]
        rfl
      refine one_ (i := 12) (N := some 18) #[true, true, true, true, true, true, true, true, true, true, true, true, true, false, false] rfl rfl (one_of HT_.out (by kernel_rfl)) (by decide) (fun K hK => ?_)
      refine goes_ Try.func35 (by kernel_rfl) rfl #[.agg #[.int .u64 a0_3, .int .u64 a0_4, .int .u64 a0_5, .int .u64 a0_6]] (by rfl) rfl rfl (by (try simp only [List.map_toArray, List.map_cons, List.map_nil]); first | done | rfl | (simp only [List.length_drop, List.length_take]; rfl)) ?_
      with_reducible refine (tenementref06_Put.calls k a0_3 a0_4 a0_5 a0_6 t250 _ A18.out).mono ?_
      rintro e w28 ⟨rfl, hb⟩
      refine ⟨_, rfl, ?_⟩
      replace HO248 := Aside0.mk (Kd.R_below (by (with_reducible repeat (first | apply Kd.R_alloc | apply Kd.R_drewN | apply Kd.R_drew)); exact HO248.out) hb)
      replace BK240 := Kb_ BK240 hb
      replace HB := Ks_ HB hb
      (try clear hb)
      (try clear hb2)
      (try clear hk)
      (try clear hi)
      refine hK.out _ _ (Kc7_ BK240.out) (fun hHeld => ?_)
      clear hK K
      refine norm_ (a' := ?_) ?_ ?_
      rotate_left
      · show Act.put _ (some 18) _ = _
        simp only [Act.put, List.setIfInBounds_toArray, List.set_cons_zero, List.set_cons_succ, i64_w, i32_w]
        rfl
      exact norm_ (by first | (simp only [putAll, Act.put, List.setIfInBounds_toArray, List.set_cons_zero, List.set_cons_succ]; done) | (simp only [putAll, Act.put, List.setIfInBounds_toArray, List.set_cons_zero, List.set_cons_succ]; rfl)) (hJ4_5_8_12 (v247) _ ⟨hHeld, (by (with_reducible repeat (first | apply Kd.R_alloc | apply Kd.R_drewN | apply Kd.R_drew)); exact HO248.out), (Kq_ BK240), (Kz_ HB GE240)⟩)
  rintro v247 w28 ⟨hS_, h0_, h1_, h2_⟩
  have n0_ : Aside0 (Kd.R (Kd.int .u8) 5 w28 w.heap.size (fun _ => True) v247 y246) := ⟨h0_⟩
  have n1_ : Aside0 (w28.heap[gb240]? = some (.cells #[.int .i64 a0_0, .string a0_1, .bool false, .int .u64 a0_3, .int .u64 a0_4, .int .u64 a0_5, .int .u64 a0_6] 48 (0, 0))) := ⟨h1_⟩
  have n2_ : Aside0 (Below w.heap.size w w28) := ⟨h2_⟩
  clear BK240
  clear HB
  clear h0_ h1_ h2_
  have HO248 := n0_
  have BK240 := n1_
  have HB := n2_
  clear n0_ n1_ n2_
  have hHeld : w28.cell? ⟨gb240, 0, none⟩ = some (.int .i64 a0_0) ∧ w28.cell? ⟨gb240, 1, none⟩ = some (.string a0_1) ∧ w28.cell? ⟨gb240, 2, none⟩ = some (.bool false) ∧ w28.cell? ⟨gb240, 3, none⟩ = some (.int .u64 a0_3) ∧ w28.cell? ⟨gb240, 4, none⟩ = some (.int .u64 a0_4) ∧ w28.cell? ⟨gb240, 5, none⟩ = some (.int .u64 a0_5) ∧ w28.cell? ⟨gb240, 6, none⟩ = some (.int .u64 a0_6) := hS_
  refine norm_ (a' := ?_) ?_ ?_
  rotate_left
  · simp only [putAll, Act.put, List.setIfInBounds_toArray, List.set_cons_zero, List.set_cons_succ]
    rfl
  refine pure_ (i := 13) (N := some 19) (v := ?_) (a' := ?_) #[true, true, true, true, true, true, true, true, true, true, true, true, true, true, false] rfl rfl (any_of HT_.out (by kernel_rfl)) (fun _ _ _ h => h) (Or.inl ⟨by rfl, ?_⟩) ?_ ?_
  rotate_left
  · intro w'
    go_simp
    with_reducible rfl
  rotate_left
  · simp only [Act.put, List.setIfInBounds_toArray, List.set_cons_zero, List.set_cons_succ, i64_w, i32_w]
    rfl
  refine pure_ (i := 14) (N := some 2) (v := ?_) (a' := ?_) #[true, true, true, true, true, true, true, true, true, true, true, true, true, true, true] rfl rfl (any_of HT_.out (by kernel_rfl)) (fun _ _ _ h => h) (Or.inl ⟨by rfl, ?_⟩) ?_ ?_
  rotate_left
  · intro w'
    go_simp
    with_reducible rfl
  rotate_left
  · simp only [Act.put, List.setIfInBounds_toArray, List.set_cons_zero, List.set_cons_succ, i64_w, i32_w]
    rfl
  refine done_ (done_of HT_.out (by kernel_rfl)) ?_
  try go_wp2
  go_ret
  exact ⟨by first | rfl | (simp [errW_none, errW_some] <;> rfl) | (simp [*, errW_none, errW_some] <;> rfl), Kz_ HB GE240⟩

end Go.Proofs.Ytplgbkobpanbfaa.Q
