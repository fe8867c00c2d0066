import Derived.Test.YtoogchgoiciggaaGItemBack3
import Derived.Test.YtoogchgoiciggaaGItemBack7
import Derived.Test.YtoogchgoiciggaaGItemBack4
import Derived.Test.YtoogchgoiciggaaGItemBack0
import Derived.Test.YtoogchgoiciggaaGItemBack2
/- The laws' stamps. -/
set_option linter.unusedVariables false
set_option linter.unusedSimpArgs false
namespace Go.Proofs.Ytoogchgoiciggaa.Pure
open Go.RowKit Go.Proofs.Ytoogchgoiciggaa.Q Go.Proofs.YtoogchgoiciggaaW.PrintWords Go.Proofs.YtoogchgoiciggaaW.PrintLast Go.Proofs.YtoogchgoiciggaaW.PrintMore Go.Proofs.Ytoogchgoiciggaa.Plain

theorem i64_of {x : Int} (h : (Lit.int .i64 x).wf = true) : -9223372036854775808 ≤ x ∧ x ≤ 9223372036854775807 := by
  have h : IntKind.i64.min ≤ x ∧ x ≤ IntKind.i64.max := by simpa only [Lit.wf, Bool.and_eq_true, decide_eq_true_eq] using h
  exact h
theorem u8_of {x : Int} (h : (Lit.int .u8 x).wf = true) : 0 ≤ x ∧ x ≤ 255 := by
  have h : IntKind.u8.min ≤ x ∧ x ≤ IntKind.u8.max := by simpa only [Lit.wf, Bool.and_eq_true, decide_eq_true_eq] using h
  exact h
theorem u16_of {x : Int} (h : (Lit.int .u16 x).wf = true) : 0 ≤ x ∧ x ≤ 65535 := by
  have h : IntKind.u16.min ≤ x ∧ x ≤ IntKind.u16.max := by simpa only [Lit.wf, Bool.and_eq_true, decide_eq_true_eq] using h
  exact h
theorem u64_of {x : Int} (h : (Lit.int .u64 x).wf = true) : 0 ≤ x ∧ x ≤ 18446744073709551615 := by
  have h : IntKind.u64.min ≤ x ∧ x ≤ IntKind.u64.max := by simpa only [Lit.wf, Bool.and_eq_true, decide_eq_true_eq] using h
  exact h
/-- The number of the datacenter's own. -/
def own (a b c d e : Int) : Int := if e = 1 then a else if e = 2 then b else if e = 3 then c else if e = 4 then d else 0
/-- A stamp that is right. -/
def okS (a b c d e : Int) : Prop := (a ≤ 1152921504606846976 ∧ b ≤ 1152921504606846976 ∧ c ≤ 1152921504606846976 ∧ d ≤ 1152921504606846976) ∧ 0 < own a b c d e
theorem okS_dc {a b c d e : Int} (h : okS a b c d e) : 1 ≤ e ∧ e ≤ 4 := by
  have h := h.2
  unfold own at h
  by_cases h1 : e = 1
  · omega
  by_cases h2 : e = 2
  · omega
  by_cases h3 : e = 3
  · omega
  by_cases h4 : e = 4
  · omega
  rw [if_neg h1, if_neg h2, if_neg h3, if_neg h4] at h
  omega
theorem mark_loop (v0 v1 v2 v3 d D : Int) (k : Nat) : tenementlaw08_Mark_mark.l0 (k + 4) 0 v0 v1 v2 v3 d true 0 0 0 0 D =
    (if D = 1 then some (IntKind.u64.wrap (1 + Int.tmod v0 4), Int.tmod v1 4, Int.tmod v2 4, 0, D) else if D = 2 then some (Int.tmod v0 4, IntKind.u64.wrap (1 + Int.tmod v1 4), Int.tmod v2 4, 0, D) else
     if D = 3 then some (Int.tmod v0 4, Int.tmod v1 4, IntKind.u64.wrap (1 + Int.tmod v2 4), 0, D) else if D = 4 then some (Int.tmod v0 4, Int.tmod v1 4, Int.tmod v2 4, IntKind.u64.wrap (1 + 0), D) else none) := by
  rw [tenementlaw08_Mark_mark.l0, if_pos (by omega), if_pos rfl, show wrap64 (0 + 1) = 1 from wrap64_id (by omega) (by omega)]
  rw [tenementlaw08_Mark_mark.l0, if_pos (by omega), if_neg (by omega), if_pos rfl, show wrap64 (1 + 1) = 2 from wrap64_id (by omega) (by omega)]
  rw [tenementlaw08_Mark_mark.l0, if_pos (by omega), if_neg (by omega), if_neg (by omega), if_pos rfl, show wrap64 (2 + 1) = 3 from wrap64_id (by omega) (by omega)]
  rw [tenementlaw08_Mark_mark.l0, if_neg (by omega)]
theorem mark_own {v0 v1 v2 v3 d : Int} (h0 : (Lit.int .u64 v0).wf = true) (h1 : (Lit.int .u64 v1).wf = true) (h2 : (Lit.int .u64 v2).wf = true) {k : Nat} (hk : 4 ≤ k) :
    ∃ n0 n1 n2 n3 dc : Nat, tenementlaw08_Mark_mark.f k v0 v1 v2 v3 d true = some ((n0 : Int), (n1 : Int), (n2 : Int), (n3 : Int), (dc : Int)) ∧ (n0 ≤ 4 ∧ n1 ≤ 4 ∧ n2 ≤ 4 ∧ n3 ≤ 4) ∧ 1 ≤ dc ∧ dc ≤ 3 ∧ okS n0 n1 n2 n3 dc := by
  have h0 := u64_of h0
  have h1 := u64_of h1
  have h2 := u64_of h2
  obtain ⟨k, rfl⟩ : ∃ m, k = m + 4 := ⟨k - 4, by omega⟩
  unfold tenementlaw08_Mark_mark.f
  rw [if_pos rfl]
  have hw : 0 ≤ IntKind.u64.wrap d := by rw [IntKind.wrap_u64]; omega
  have hD : wrap64 (1 + (wrap64 (Int.tmod (IntKind.u64.wrap d) 3))) = 1 + (IntKind.u64.wrap d) % 3 := by
    rw [Int.tmod_eq_emod_of_nonneg hw, wrap64_id (x := (IntKind.u64.wrap d) % 3) (by omega) (by omega), wrap64_id (by omega) (by omega)]
  rw [hD, mark_loop, Int.tmod_eq_emod_of_nonneg h0.1, Int.tmod_eq_emod_of_nonneg h1.1, Int.tmod_eq_emod_of_nonneg h2.1, wrap_u64 (x := 1 + v0 % 4) (by omega) (by omega), wrap_u64 (x := 1 + v1 % 4) (by omega) (by omega), wrap_u64 (x := 1 + v2 % 4) (by omega) (by omega)]
  generalize IntKind.u64.wrap d = q at hw ⊢
  clear hD
  have c : q % 3 = 0 ∨ q % 3 = 1 ∨ q % 3 = 2 := by omega
  rcases c with c | c | c
  · rw [c, if_pos (by omega)]
    refine ⟨(1 + v0 % 4).toNat, (v1 % 4).toNat, (v2 % 4).toNat, 0, 1, by rw [Int.toNat_of_nonneg (by omega), Int.toNat_of_nonneg (by omega), Int.toNat_of_nonneg (by omega)]; rfl, by omega, by omega, by omega, by omega, ?_⟩
    unfold own
    rw [if_pos (by omega)]
    omega
  · rw [c, if_neg (by omega), if_pos (by omega)]
    refine ⟨(v0 % 4).toNat, (1 + v1 % 4).toNat, (v2 % 4).toNat, 0, 2, by rw [Int.toNat_of_nonneg (by omega), Int.toNat_of_nonneg (by omega), Int.toNat_of_nonneg (by omega)]; rfl, by omega, by omega, by omega, by omega, ?_⟩
    unfold own
    rw [if_neg (by omega), if_pos (by omega)]
    omega
  · rw [c, if_neg (by omega), if_neg (by omega), if_pos (by omega)]
    refine ⟨(v0 % 4).toNat, (v1 % 4).toNat, (1 + v2 % 4).toNat, 0, 3, by rw [Int.toNat_of_nonneg (by omega), Int.toNat_of_nonneg (by omega), Int.toNat_of_nonneg (by omega)]; rfl, by omega, by omega, by omega, by omega, ?_⟩
    unfold own
    rw [if_neg (by omega), if_neg (by omega), if_pos (by omega)]
    omega
theorem mark_any {v0 v1 v2 v3 d : Int} (h0 : (Lit.int .u64 v0).wf = true) (h1 : (Lit.int .u64 v1).wf = true) (h2 : (Lit.int .u64 v2).wf = true) (h3 : (Lit.int .u64 v3).wf = true) (h4 : (Lit.int .i64 d).wf = true) (o : Bool) {k : Nat} (hk : 4 ≤ k) :
    ∃ (n0 n1 n2 n3 : Nat) (e : Int), tenementlaw08_Mark_mark.f k v0 v1 v2 v3 d o = some ((n0 : Int), (n1 : Int), (n2 : Int), (n3 : Int), e) ∧ (n0 < 18446744073709551616 ∧ n1 < 18446744073709551616 ∧ n2 < 18446744073709551616 ∧ n3 < 18446744073709551616) ∧ -9223372036854775808 ≤ e ∧ e ≤ 9223372036854775807 := by
  cases o with
  | true =>
    obtain ⟨n0, n1, n2, n3, dc, e, hn, l1, l3, _⟩ := mark_own (v3 := v3) (d := d) h0 h1 h2 hk
    exact ⟨n0, n1, n2, n3, dc, e, by omega, by omega, by omega⟩
  | false =>
    have h0 := u64_of h0
    have h1 := u64_of h1
    have h2 := u64_of h2
    have h3 := u64_of h3
    have h4 := i64_of h4
    unfold tenementlaw08_Mark_mark.f
    rw [if_neg (by simp)]
    exact ⟨v0.toNat, v1.toNat, v2.toNat, v3.toNat, d, by rw [Int.toNat_of_nonneg h0.1, Int.toNat_of_nonneg h1.1, Int.toNat_of_nonneg h2.1, Int.toNat_of_nonneg h3.1], by omega, h4.1, h4.2⟩
end Go.Proofs.Ytoogchgoiciggaa.Pure

/- Stamps: what package stamp answers (beside package pack's readers of texts). -/
set_option linter.unusedVariables false
set_option linter.unusedSimpArgs false
namespace Go.Proofs.Ytoogchgoiciggaa.Pure
open Go.RowKit Go.Proofs.Ytoogchgoiciggaa.Q Go.Proofs.YtoogchgoiciggaaW.PrintWords Go.Proofs.YtoogchgoiciggaaW.PrintLast Go.Proofs.YtoogchgoiciggaaW.PrintMore Go.Proofs.Ytoogchgoiciggaa.Plain

theorem sN_f (a b c d e : Int) : stamp_Stamp_N.f a b c d e = some (own a b c d e) := rfl
theorem sright_true {a b c d e : Int} (h : okS a b c d e) : stamp_Right.f a b c d e = some true := by
  unfold stamp_Right.f
  rw [vright_f, Option.bind_some, if_pos (decide_eq_true h.1), sN_f, Option.bind_some, decide_eq_true h.2]
theorem sright_false {a b c d e : Int} (h : ¬ okS a b c d e) : stamp_Right.f a b c d e = some false := by
  unfold stamp_Right.f
  rw [vright_f, Option.bind_some]
  by_cases c1 : (a ≤ 1152921504606846976 ∧ b ≤ 1152921504606846976 ∧ c ≤ 1152921504606846976 ∧ d ≤ 1152921504606846976)
  · rw [if_pos (decide_eq_true c1), sN_f, Option.bind_some, decide_eq_false (fun c2 => h ⟨c1, c2⟩)]
  · rw [if_neg (by simpa using c1)]
def sp (dc n0 n1 n2 n3 : Nat) : ByteArray := nb dc 1 ++ vv n0 n1 n2 n3
theorem bl_sp (dc n0 n1 n2 n3 : Nat) : bl (sp dc n0 n1 n2 n3) = be 1 dc ++ rv n0 n1 n2 n3 := by
  unfold sp
  rw [bl_append, bl_nb, bl_vv]
theorem sp_size {n0 n1 n2 n3 : Nat} (dc : Nat) (h0 : n0 < 18446744073709551616) (h1 : n1 < 18446744073709551616) (h2 : n2 < 18446744073709551616) (h3 : n3 < 18446744073709551616) : (sp dc n0 n1 n2 n3).size ≤ 41 ∧ (sp dc n0 n1 n2 n3).size ≠ 0 := by
  have := vv_size h0 h1 h2 h3
  unfold sp
  rw [ByteArray.size_append, nb_size]
  omega
theorem sput_true {n0 n1 n2 n3 dc : Nat} (h : okS n0 n1 n2 n3 dc) {k : Nat} (hk : 11 ≤ k) : stamp_Put.f k n0 n1 n2 n3 dc = some (sp dc n0 n1 n2 n3, true) := by
  have hd := okS_dc h
  have hb := h.1
  have z := vv_size (a := n0) (b := n1) (c := n2) (d := n3) (by omega) (by omega) (by omega) (by omega)
  unfold stamp_Put.f
  rw [sright_true h, Option.bind_some, if_pos rfl, wrap_u64 (by omega) (by omega), Number_f dc 1 (by omega) (by omega), Option.bind_some, vput_f (by omega) (by omega) (by omega) (by omega) hk, Option.bind_some]
  show (if (nb dc 1).size + (vv n0 n1 n2 n3).size ≤ 9223372036854775807 then _ else _) = _
  rw [if_pos (by rw [nb_size]; omega)]
  rfl
theorem sput_false {a b c d e : Int} (h : ¬ okS a b c d e) {k : Nat} : stamp_Put.f k a b c d e = some (⟨#[]⟩, false) := by
  unfold stamp_Put.f
  rw [sright_false h, Option.bind_some, if_neg (by simp)]
end Go.Proofs.Ytoogchgoiciggaa.Pure

/- A stamp that is read back; what is read stands there. -/
set_option linter.unusedVariables false
set_option linter.unusedSimpArgs false
namespace Go.Proofs.Ytoogchgoiciggaa.Pure
open Go.RowKit Go.Proofs.Ytoogchgoiciggaa.Q Go.Proofs.YtoogchgoiciggaaW.PrintWords Go.Proofs.YtoogchgoiciggaaW.PrintLast Go.Proofs.YtoogchgoiciggaaW.PrintMore Go.Proofs.Ytoogchgoiciggaa.Plain

theorem one_byte (x : Nat) : be 1 x = [x % 256] := by simp [be]
theorem bev_one (x : Nat) : bev [x] = x := by simp [bev]
theorem sget_step {s : ByteArray} {b : Bool} (hz : s.size ≤ 9223372036854775807) {k : Nat} (hk : 22 ≤ k) :
    ∃ v0 v1 v2 v3 v4 t c, stamp_Get.f k s b = some (v0, v1, v2, v3, v4, t, c) ∧ t.size ≤ s.size ∧
      (c = false → b = false ∧ ∃ n0 n1 n2 n3 dc : Nat, dc < 256 ∧ bl s = dc :: (rv n0 n1 n2 n3 ++ bl t) ∧ v0 = n0 ∧ v1 = n1 ∧ v2 = n2 ∧ v3 = n3 ∧ v4 = dc) := by
  by_cases h : b = true ∨ (s.size : Int) < 1
  · have e1 := ReaderNumber_bad (s := s) (b := b) (k := 1) (h.elim Or.inl (fun h => Or.inr (Or.inr (Or.inr h)))) hz
    obtain ⟨v0, v1, v2, v3, t, c, e2, z2, h2⟩ := vget_step (s := (⟨#[]⟩ : ByteArray)) (b := true) (by simp [ByteArray.size]) hk
    have hc : c = true := by cases c with | true => rfl | false => exact absurd (h2 rfl).1 (by simp)
    subst hc
    unfold stamp_Get.f
    rw [e1, Option.bind_some]
    simp only [e2, Option.bind_some]
    rw [if_pos trivial]
    exact ⟨_, _, _, _, _, _, _, rfl, Nat.zero_le _, fun h => absurd h (by simp)⟩
  · have hb : b = false := by cases b with | true => exact absurd (Or.inl rfl) h | false => rfl
    subst hb
    have hs : ¬ (s.size : Int) < 1 := fun c => h (Or.inr c)
    clear h
    have e1 := ReaderNumber_good (s := s) (k := 1) (by omega) (by omega) (by omega) hz
    have hd : bl (s.extract (1 : Int).toNat s.size) = (bl s).drop 1 := bl_drop s 1
    have hzd : (s.extract (1 : Int).toNat s.size).size ≤ s.size := by simp
    obtain ⟨x, l, hl⟩ : ∃ x l, bl s = x :: l := by
      cases hx : bl s with
      | nil => exact absurd (by rw [← bl_length, hx]; decide) hs
      | cons x l => exact ⟨x, l, rfl⟩
    have lx : x < 256 := bl_lt s x (by rw [hl]; simp)
    have ex : ((bev ((bl s).take (1 : Int).toNat) : Nat) : Int) = (x : Int) := by
      rw [hl]
      show ((bev [x] : Nat) : Int) = _
      rw [bev_one]
    rw [hl] at hd
    rw [ex] at e1
    generalize s.extract (1 : Int).toNat s.size = u at *
    obtain ⟨v0, v1, v2, v3, t, c, e2, z2, h2⟩ := vget_step (s := u) (b := false) (by omega) hk
    unfold stamp_Get.f
    rw [e1, Option.bind_some]
    simp only [e2, Option.bind_some]
    cases c with
    | true => rw [if_pos rfl]; exact ⟨_, _, _, _, _, _, _, rfl, Nat.zero_le _, fun h => absurd h (by simp)⟩
    | false =>
      obtain ⟨_, n0, n1, n2, n3, ln, rfl, rfl, rfl, rfl, hq⟩ := h2 rfl
      rw [if_neg (by simp)]
      by_cases r : okS n0 n1 n2 n3 (wrap64 (x : Int))
      · rw [sright_true r, Option.bind_some, if_pos rfl]
        refine ⟨_, _, _, _, _, _, _, rfl, by omega, fun _ => ⟨by first | rfl | trivial, n0, n1, n2, n3, x, lx, ?_, rfl, rfl, rfl, rfl, wrap64_id (by omega) (by omega)⟩⟩
        rw [hl]
        have hd : bl u = l := hd
        rw [← hd, hq]
        unfold rv
        simp
      · rw [sright_false r, Option.bind_some, if_neg (by simp)]
        exact ⟨_, _, _, _, _, _, _, rfl, Nat.zero_le _, fun h => absurd h (by simp)⟩
theorem sget_good {s rest : ByteArray} {n0 n1 n2 n3 dc : Nat} (hz : s.size ≤ 9223372036854775807) (hs : bl s = be 1 dc ++ rv n0 n1 n2 n3 ++ bl rest) (r : okS n0 n1 n2 n3 dc) {k : Nat} (hk : 22 ≤ k) :
    stamp_Get.f k s false = some ((n0 : Int), (n1 : Int), (n2 : Int), (n3 : Int), (dc : Int), rest, false) := by
  have hdc := okS_dc r
  have hb := r.1
  rw [one_byte, List.append_assoc, List.singleton_append, Nat.mod_eq_of_lt (by omega)] at hs
  obtain ⟨l, hl'⟩ : ∃ l, l = rv n0 n1 n2 n3 ++ bl rest := ⟨_, rfl⟩
  rw [← hl'] at hs
  have hl : s.size ≠ 0 := by rw [← bl_length, hs]; simp
  have e1 := ReaderNumber_good (s := s) (k := 1) (by omega) (by omega) (by omega) hz
  have hd : bl (s.extract (1 : Int).toNat s.size) = l := by
    rw [show (1 : Int).toNat = 1 from rfl, bl_drop, hs, List.drop_succ_cons, List.drop_zero]
  have hzd : (s.extract (1 : Int).toNat s.size).size ≤ s.size := by simp
  have ex : ((bev ((bl s).take (1 : Int).toNat) : Nat) : Int) = (dc : Int) := by
    rw [hs, show (1 : Int).toNat = 0 + 1 from rfl, List.take_succ_cons, List.take_zero, bev_one]
  rw [ex] at e1
  generalize s.extract (1 : Int).toNat s.size = u at *
  have e2 := vget_good (s := u) (rest := rest) (by omega) (hd.trans hl') (by omega) hk
  unfold stamp_Get.f
  rw [e1, Option.bind_some]
  show (vec_Get.f k u false).bind _ = _
  rw [e2, Option.bind_some]
  show (if false = true then _ else (stamp_Right.f (n0 : Int) n1 n2 n3 (wrap64 (dc : Int))).bind _) = _
  rw [if_neg (by simp), wrap64_id (by omega) (by omega), sright_true r, Option.bind_some, if_pos rfl]
theorem sget_cut {s : ByteArray} {n0 n1 n2 n3 dc m : Nat} (hz : s.size ≤ 9223372036854775807) (hs : bl s = be 1 dc ++ rv n0 n1 n2 n3) (hm : m < s.size) {k : Nat} (hk : 22 ≤ k) :
    ∃ v0 v1 v2 v3 v4 t, stamp_Get.f k (s.extract 0 m) false = some (v0, v1, v2, v3, v4, t, true) := by
  obtain ⟨v0, v1, v2, v3, v4, t, c, e, _, h⟩ := sget_step (s := s.extract 0 m) (b := false) (by simp; omega) hk
  cases c with
  | true => exact ⟨v0, v1, v2, v3, v4, t, e⟩
  | false =>
    exfalso
    obtain ⟨_, m0, m1, m2, m3, x, _, hq, _⟩ := h rfl
    have e0 : be 1 dc ++ rv n0 n1 n2 n3 = (x :: (rv m0 m1 m2 m3 ++ bl t)) ++ (bl s).drop m := by
      rw [← hq, bl_take, List.take_append_drop, hs]
    rw [one_byte] at e0
    simp only [List.nil_append, List.cons_append, List.cons.injEq] at e0
    have := (rv_prefix (r := []) (q := bl t ++ (bl s).drop m) (by rw [List.append_nil, ← List.append_assoc]; exact e0.2)).2.2.2.2
    have := congrArg List.length this
    simp only [List.length_nil, List.length_append, List.length_drop, bl_length] at this
    omega
end Go.Proofs.Ytoogchgoiciggaa.Pure
