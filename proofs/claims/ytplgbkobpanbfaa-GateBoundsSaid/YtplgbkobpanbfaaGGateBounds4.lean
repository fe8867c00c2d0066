import Derived.Test.YtplgbkobpanbfaaQx0
import Derived.Test.YtplgbkobpanbfaaGGateBounds0
import Derived.Test.YtplgbkobpanbfaaGGateBounds2
import Derived.Test.YtplgbkobpanbfaaGGateBounds3
namespace Go.Proofs.Ytplgbkobpanbfaa.Q
open Go.RowKit Go.Proofs.YtplgbkobpanbfaaW.PrintWords Go.Proofs.YtplgbkobpanbfaaW.PrintLast Go.Proofs.YtplgbkobpanbfaaW.PrintMore
attribute [local go_sem] max2_int min2_int max_two min_two max_three min_three max_four min_four   -- for this text's walks alone
set_option linter.unusedVariables false
set_option linter.unusedSimpArgs false
/-! ### tenementlaw19_GateBounds: function 7 -/
-- FOREIGN: a law by hand: a record is made of texts of zeros; the region that draws is told by an invariant
-- import Derived.Test.YtplgbkobpanbfaaInv
-- import Derived.Test.YtplgbkobpanbfaaBytes
def tenementlaw19_GateBounds.zs (n : Nat) : ByteArray := strOfNums (List.replicate n 0)
def tenementlaw19_GateBounds.want (a0 a1 a2 a3 : Int) (n0 n1 n2 : Nat) : Bool := decide (0 ≤ a0) && (decide (a0 ≤ 255) && (decide (0 ≤ a1) && (decide (a1 ≤ 255) && (decide (0 ≤ a2) && (decide (a2 ≤ 255) && (decide (0 ≤ a3) && (decide (a3 ≤ 255) && (decide ((n0 : Int) ≤ 128) && (decide ((n1 : Int) ≤ 64) && decide ((n2 : Int) ≤ 64))))))))))
def tenementlaw19_GateBounds.f (k : Nat) (a0 a1 a2 a3 a4 a5 : Int) : Option Bool :=
  if ((-32768 ≤ a0 ∧ a0 ≤ 32767) ∧ (-32768 ≤ a1 ∧ a1 ≤ 32767) ∧ (-32768 ≤ a2 ∧ a2 ≤ 32767) ∧ (-32768 ≤ a3 ∧ a3 ≤ 32767)) ∧ (0 ≤ a4 ∧ a4 ≤ 255) ∧ (0 ≤ a5 ∧ a5 ≤ 255) then (tenementlaw19_examples.f k).bind fun t => if t = true then
    (gate_Put.f k (tenementlaw19_GateBounds.zs a4.toNat) a0 a1 a2 a3 (tenementlaw19_GateBounds.zs (a5.toNat % 70)) ⟨#[107]⟩ (tenementlaw19_GateBounds.zs (a5.toNat % 66))).bind fun p => (gate_Right.f (tenementlaw19_GateBounds.zs a4.toNat) a0 a1 a2 a3 (tenementlaw19_GateBounds.zs (a5.toNat % 70)) ⟨#[107]⟩ (tenementlaw19_GateBounds.zs (a5.toNat % 66))).bind fun r =>
      if r = tenementlaw19_GateBounds.want a0 a1 a2 a3 a4.toNat (a5.toNat % 70) (a5.toNat % 66) ∧ p.2 = tenementlaw19_GateBounds.want a0 a1 a2 a3 a4.toNat (a5.toNat % 70) (a5.toNat % 66) ∧ (p.1.toList != ([] : List UInt8)) = tenementlaw19_GateBounds.want a0 a1 a2 a3 a4.toNat (a5.toNat % 70) (a5.toNat % 66) then some true else none else none else none
theorem tenementlaw19_GateBounds.mono : ∀ a0 a1 a2 a3 a4 a5 k, LeO (tenementlaw19_GateBounds.f k a0 a1 a2 a3 a4 a5) (tenementlaw19_GateBounds.f (k + 1) a0 a1 a2 a3 a4 a5) := by
  intro a0 a1 a2 a3 a4 a5 k
  unfold tenementlaw19_GateBounds.f
  exact LeO.ite (LeO.bind (tenementlaw19_examples.mono _) (fun _ => LeO.ite (LeO.bind (gate_Put.mono _ _ _ _ _ _ _ _ _) (fun _ => LeO.refl _)) (LeO.refl _))) (LeO.refl _)
theorem tenementlaw19_GateBounds.made (v : Value) (n i : Nat) (h : i < n) : (madeCells #[v] n)[i]? = some v := by
  unfold madeCells
  simp [h, Nat.mod_one]
def tenementlaw19_GateBounds.Sp (s0 n0 n1 n2 n5 : Nat) (a0 a1 a2 a3 : Int) : Nat → Value → World → Prop
  | 0, v, _ => v = .int .u8 (n0 : Int)
  | 1, v, _ => v = .int .i64 (n0 : Int)
  | 2, v, W => ∃ b, v = .slice (some ⟨b, 0, none⟩) n0 n0 ∧ s0 ≤ b ∧ W.heap[b]? = some (.cells (madeCells #[.int .u8 0] n0) 5 (0, 0))
  | 3, v, _ => v = .string (strOfNums (List.replicate n0 0))
  | 4, v, _ => v = .int .i16 a0
  | 5, v, _ => v = .int .i64 a0
  | 6, v, _ => v = .int .i16 a1
  | 7, v, _ => v = .int .i64 a1
  | 8, v, _ => v = .int .i16 a2
  | 9, v, _ => v = .int .i64 a2
  | 10, v, _ => v = .int .i16 a3
  | 11, v, _ => v = .int .i64 a3
  | 12, v, _ => v = .int .u8 (n5 : Int)
  | 13, v, _ => v = .int .u8 (n1 : Int)
  | 14, v, _ => v = .int .i64 (n1 : Int)
  | 15, v, W => ∃ b, v = .slice (some ⟨b, 0, none⟩) n1 n1 ∧ s0 ≤ b ∧ W.heap[b]? = some (.cells (madeCells #[.int .u8 0] n1) 5 (0, 0))
  | 16, v, _ => v = .string (strOfNums (List.replicate n1 0))
  | 17, v, _ => v = .int .u8 (n5 : Int)
  | 18, v, _ => v = .int .u8 (n2 : Int)
  | 19, v, _ => v = .int .i64 (n2 : Int)
  | 20, v, W => ∃ b, v = .slice (some ⟨b, 0, none⟩) n2 n2 ∧ s0 ≤ b ∧ W.heap[b]? = some (.cells (madeCells #[.int .u8 0] n2) 5 (0, 0))
  | 21, v, _ => v = .string (strOfNums (List.replicate n2 0))
  | 22, v, _ => v = .agg #[.string (strOfNums (List.replicate n0 0)), .int .i64 a0, .int .i64 a1, .int .i64 a2, .int .i64 a3, .string (strOfNums (List.replicate n1 0)), .string ⟨#[107]⟩, .string (strOfNums (List.replicate n2 0))]
  | 23, v, W => ∃ b, v = .pointer (some ⟨b, 0, none⟩) ∧ s0 ≤ b ∧ W.heap[b]? = some (.cells #[.string ⟨#[]⟩, .int .i64 0, .int .i64 0, .int .i64 0, .int .i64 0, .string ⟨#[]⟩, .string ⟨#[]⟩, .string ⟨#[]⟩] 23 (0, 0))
  | _, _, _ => True
theorem tenementlaw19_GateBounds.stay (s0 n0 n1 n2 n5 : Nat) (a0 a1 a2 a3 : Int) : ∀ (i : Nat) (v : Value) (W W' : World), Below W.heap.size W W' → tenementlaw19_GateBounds.Sp s0 n0 n1 n2 n5 a0 a1 a2 a3 i v W → tenementlaw19_GateBounds.Sp s0 n0 n1 n2 n5 a0 a1 a2 a3 i v W'
  | 0, v, W, W', hb, h => h
  | 1, v, W, W', hb, h => h
  | 2, v, W, W', hb, h => by obtain ⟨b, e, hs, h⟩ := h; exact ⟨b, e, hs, blk_below h hb⟩
  | 3, v, W, W', hb, h => h
  | 4, v, W, W', hb, h => h
  | 5, v, W, W', hb, h => h
  | 6, v, W, W', hb, h => h
  | 7, v, W, W', hb, h => h
  | 8, v, W, W', hb, h => h
  | 9, v, W, W', hb, h => h
  | 10, v, W, W', hb, h => h
  | 11, v, W, W', hb, h => h
  | 12, v, W, W', hb, h => h
  | 13, v, W, W', hb, h => h
  | 14, v, W, W', hb, h => h
  | 15, v, W, W', hb, h => by obtain ⟨b, e, hs, h⟩ := h; exact ⟨b, e, hs, blk_below h hb⟩
  | 16, v, W, W', hb, h => h
  | 17, v, W, W', hb, h => h
  | 18, v, W, W', hb, h => h
  | 19, v, W, W', hb, h => h
  | 20, v, W, W', hb, h => by obtain ⟨b, e, hs, h⟩ := h; exact ⟨b, e, hs, blk_below h hb⟩
  | 21, v, W, W', hb, h => h
  | 22, v, W, W', hb, h => h
  | 23, v, W, W', hb, h => by obtain ⟨b, e, hs, h⟩ := h; exact ⟨b, e, hs, blk_below h hb⟩
  | _ + 24, v, W, W', hb, h => trivial
def tenementlaw19_GateBounds.St (w : World) (s0 : Nat) (W : World) : Prop := Below w.heap.size w W ∧ s0 ≤ W.heap.size
theorem tenementlaw19_GateBounds.st_alloc {w : World} {s0 : Nat} {W : World} (h : tenementlaw19_GateBounds.St w s0 W) (o : Obj) : tenementlaw19_GateBounds.St w s0 (W.alloc o) := ⟨below_alloc h.1 o, Nat.le_trans h.2 (by simp [World.alloc, -World.alloc_eq])⟩
theorem tenementlaw19_GateBounds.alloc_below (W : World) (o : Obj) : Below W.heap.size W (W.alloc o) := below_alloc (Below.refl _ _) o
theorem tenementlaw19_GateBounds.op_some {P : Program} {ops : Array Oper} {Q : Exit → Act → World → Prop} {i : Nat} {o : Oper} {K : Act → World → Prop} {a : Act} {w : World} (hi : ops[i]? = some o) (hg : o.guard.isNone = true) (h : o.wp P a w K Q) : wpOp P ops Q i K a w := by
  unfold wpOp
  rw [hi]
  simp only [Go.Proofs.Ytplgbkobpanbfaa.Inv.wanted_none hg, if_true]
  exact .inl h
theorem tenementlaw19_GateBounds.mk (W : World) (n : Nat) (hn : n ≤ 300) : (Instr.makeSlice 66 (.int .i64 (n : Int)) (.int .i64 (n : Int))).run Try.prog W = .ok (.slice (some ⟨W.heap.size, 0, none⟩) n n) (W.alloc (.cells (madeCells #[.int .u8 0] n) 5)) := by
  obtain ⟨i0, hi0, hz0, hz1, hz2⟩ := info_parts info5
  have h := run_make (P := Try.prog) W 66 5 i0 (.int .u8 0) Try.underlying66 hi0 hz0 .i64 .i64 (n : Int) (n : Int) (by omega) (by omega) (by rw [hz2]; omega) (by omega)
  rw [h, hz1, Int.toNat_natCast, Nat.mul_one]
  rfl
set_option maxHeartbeats 8000000 in
set_option maxRecDepth 100000 in
theorem tenementlaw19_GateBounds.calls (k : Nat) (a0 a1 a2 a3 a4 a5 : Int) (r : Bool) (w : World) (h : tenementlaw19_GateBounds.f k a0 a1 a2 a3 a4 a5 = some r) :
    Calls Try.prog 7 #[.int .i16 a0, .int .i16 a1, .int .i16 a2, .int .i16 a3, .int .u8 a4, .int .u8 a5] w fun e w' => e = .returned (.bool r) ∧ Below w.heap.size w w' := by
  have hu23 := Try.underlying23
  unfold tenementlaw19_GateBounds.f at h
  by_cases hw : ((-32768 ≤ a0 ∧ a0 ≤ 32767) ∧ (-32768 ≤ a1 ∧ a1 ≤ 32767) ∧ (-32768 ≤ a2 ∧ a2 ≤ 32767) ∧ (-32768 ≤ a3 ∧ a3 ≤ 32767)) ∧ (0 ≤ a4 ∧ a4 ≤ 255) ∧ (0 ≤ a5 ∧ a5 ≤ 255)
  rotate_left
  · rw [if_neg hw] at h; cases h
  rw [if_pos hw] at h
  obtain ⟨t, ht, h⟩ := Option.bind_eq_some_iff.1 h
  cases t with
  | false => rw [if_neg (by simp)] at h; cases h
  | true =>
    rw [if_pos rfl] at h
    obtain ⟨⟨ps, po⟩, hp, h⟩ := Option.bind_eq_some_iff.1 h
    obtain ⟨rr, hr, h⟩ := Option.bind_eq_some_iff.1 h
    obtain ⟨n0, rfl⟩ : ∃ n : Nat, a4 = (n : Int) := ⟨a4.toNat, by omega⟩
    obtain ⟨n5, rfl⟩ : ∃ n : Nat, a5 = (n : Int) := ⟨a5.toNat, by omega⟩
    rw [Int.toNat_natCast, Int.toNat_natCast] at hp hr h
    have e1 : Int.tmod (n5 : Int) 70 = ((n5 % 70 : Nat) : Int) := by rw [Int.tmod_eq_emod_of_nonneg (by omega)]; omega
    have e2 : Int.tmod (n5 : Int) 66 = ((n5 % 66 : Nat) : Int) := by rw [Int.tmod_eq_emod_of_nonneg (by omega)]; omega
    have l0 : n0 ≤ 255 := by omega
    have l1 : n5 % 70 < 70 := Nat.mod_lt _ (by omega)
    have l2 : n5 % 66 < 66 := Nat.mod_lt _ (by omega)
    generalize n5 % 70 = n1 at *
    generalize n5 % 66 = n2 at *
    by_cases hc : rr = tenementlaw19_GateBounds.want a0 a1 a2 a3 n0 n1 n2 ∧ po = tenementlaw19_GateBounds.want a0 a1 a2 a3 n0 n1 n2 ∧ (ps.toList != ([] : List UInt8)) = tenementlaw19_GateBounds.want a0 a1 a2 a3 n0 n1 n2
    rotate_left
    · rw [if_neg hc] at h; cases h
    rw [if_pos hc] at h
    obtain rfl := Option.some.inj h
    clear h
    obtain ⟨hc1, hc2, hc3⟩ := hc
    rw [hc1] at hr
    rw [hc2] at hp
    clear hc1 hc2
    have HX := Aside0.mk ht
    have HP := Aside0.mk hp
    have HR := Aside0.mk hr
    have HC := Aside0.mk hc3
    clear ht hp hr hc3
    have w0 : IntKind.i64.wrap (n0 : Int) = (n0 : Int) := by rw [IntKind.wrap_i64]; omega
    have w1 : IntKind.i64.wrap (n1 : Int) = (n1 : Int) := by rw [IntKind.wrap_i64]; omega
    have w2 : IntKind.i64.wrap (n2 : Int) = (n2 : Int) := by rw [IntKind.wrap_i64]; omega
    have u0 : IntKind.i64.wrap a0 = a0 := by rw [IntKind.wrap_i64]; omega
    have u1 : IntKind.i64.wrap a1 = a1 := by rw [IntKind.wrap_i64]; omega
    have u2 : IntKind.i64.wrap a2 = a2 := by rw [IntKind.wrap_i64]; omega
    have u3 : IntKind.i64.wrap a3 = a3 := by rw [IntKind.wrap_i64]; omega
    clear hw
    go_enter Try.func7, Try.ntmps7
    go_wp2_with (go_at_call 9; refine (tenementlaw19_examples.calls k true _ HX.out).mono ?_; rintro e W0 ⟨rfl, hb⟩)
    have HB := Aside0.mk hb
    obtain ⟨s0, hs0⟩ : ∃ s0, s0 = W0.heap.size := ⟨_, rfl⟩
    have hst : tenementlaw19_GateBounds.St w s0 W0.drew := ⟨below_drew1 hb, by rw [hs0]; exact Nat.le_refl _⟩
    have hws : w.heap.size ≤ s0 := by rw [hs0]; exact below_size hb
    clear hb HX hs0
    refine Go.Proofs.Ytplgbkobpanbfaa.Inv.region_ok (by kernel_rfl) 24 [21, 22, 23, 24, 25, 26, 27, 28, 29, 30, 31, 32, 33, 34, 35, 36, 37, 38, 39, 40, 41, 42, 43, 14] (by kernel_rfl) (fun N hN => (show N < 111 from (by decide : ∀ N ∈ ([21, 22, 23, 24, 25, 26, 27, 28, 29, 30, 31, 32, 33, 34, 35, 36, 37, 38, 39, 40, 41, 42, 43, 14] : List Nat), N < 111) N hN)) (tenementlaw19_GateBounds.Sp s0 n0 n1 n2 n5 a0 a1 a2 a3) (tenementlaw19_GateBounds.St w s0) hst (fun i v W W' _ hb h => tenementlaw19_GateBounds.stay s0 n0 n1 n2 n5 a0 a1 a2 a3 i v W W' hb h) ?hstep ?hend
    case hstep =>
      intro i o hi ho a W hS hL hd
      have q0 : a.tmps.getD 0 undef = .int .i16 a0 := hL.2.2 0 (by decide)
      have q1 : a.tmps.getD 1 undef = .int .i16 a1 := hL.2.2 1 (by decide)
      have q2 : a.tmps.getD 2 undef = .int .i16 a2 := hL.2.2 2 (by decide)
      have q3 : a.tmps.getD 3 undef = .int .i16 a3 := hL.2.2 3 (by decide)
      have q4 : a.tmps.getD 4 undef = .int .u8 (n0 : Int) := hL.2.2 4 (by decide)
      have q5 : a.tmps.getD 5 undef = .int .u8 (n5 : Int) := hL.2.2 5 (by decide)
      have mk0 := tenementlaw19_GateBounds.mk W n0 (by omega)
      have mk1 := tenementlaw19_GateBounds.mk W n1 (by omega)
      have mk2 := tenementlaw19_GateBounds.mk W n2 (by omega)
      clear hL hws hst
      match i, hi, ho, hd with
      | 0, _, ho, hd =>
        obtain rfl := Option.some.inj ho
        clear hd ho
        refine ⟨.int .u8 (n0 : Int), W, ?_, hS, Below.refl _ _, rfl⟩
        first | (go_simp; done) | (simp only [execOp, Act.eval, q0, q1, q2, q3, q4, q5]; go_simp; done) | (simp only [execOp, Act.eval, q0, q1, q2, q3, q4, q5]; go_simp; rfl) | (simp only [execOp, Act.eval, q0, q1, q2, q3, q4, q5]; go_simp; trace_state; sorry)
      | 1, _, ho, hd =>
        obtain rfl := Option.some.inj ho
        have d0 : a.tmps.getD 21 undef = .int .u8 (n0 : Int) := hd ⟨0, .data⟩ (by simp) rfl
        clear hd ho
        refine ⟨.int .i64 (n0 : Int), W, ?_, hS, Below.refl _ _, rfl⟩
        first | (go_simp; done) | (simp only [execOp, Act.eval, q0, q1, q2, q3, q4, q5, d0]; go_simp; done) | (simp only [execOp, Act.eval, q0, q1, q2, q3, q4, q5, d0]; go_simp; rfl) | (simp only [execOp, Act.eval, q0, q1, q2, q3, q4, q5, d0]; go_simp; trace_state; sorry)
      | 2, _, ho, hd =>
        obtain rfl := Option.some.inj ho
        have d1 : a.tmps.getD 22 undef = .int .i64 (n0 : Int) := hd ⟨1, .data⟩ (by simp) rfl
        clear hd ho
        refine ⟨.slice (some ⟨W.heap.size, 0, none⟩) n0 n0, W.alloc (.cells (madeCells #[.int .u8 0] n0) 5), ?_, tenementlaw19_GateBounds.st_alloc hS _, tenementlaw19_GateBounds.alloc_below W _, ⟨_, rfl, hS.2, blk_new _ _⟩⟩
        first | (go_simp; done) | (simp only [execOp, Act.eval, q0, q1, q2, q3, q4, q5, d1]; go_simp; done) | (simp only [execOp, Act.eval, q0, q1, q2, q3, q4, q5, d1]; go_simp; rfl) | (simp only [execOp, Act.eval, q0, q1, q2, q3, q4, q5, d1]; go_simp; trace_state; sorry)
      | 3, _, ho, hd =>
        obtain rfl := Option.some.inj ho
        obtain ⟨b, d2, hsb, hbk⟩ : tenementlaw19_GateBounds.Sp s0 n0 n1 n2 n5 a0 a1 a2 a3 2 (a.tmps.getD 23 undef) W := hd ⟨2, .data⟩ (by simp) rfl
        clear hd ho
        refine ⟨.string (strOfNums (List.replicate n0 0)), W, ?_, hS, Below.refl _ _, rfl⟩
        have hcv := run_convert_bytes_arg (P := Try.prog) W 66 5 Try.underlying66 Try.underlying5 b 0 n0 n0 (List.replicate n0 0) (by simp) (fun j hj => by
          rw [Nat.zero_add]
          refine ((blk_cell hbk j).trans (tenementlaw19_GateBounds.made _ _ j hj)).trans ?_
          simp [List.getElem?_replicate, hj]) 9 Try.underlying9
        first | (go_simp; done) | (simp only [execOp, Act.eval, q0, q1, q2, q3, q4, q5, d2]; go_simp; done) | (simp only [execOp, Act.eval, q0, q1, q2, q3, q4, q5, d2]; go_simp; rfl) | (simp only [execOp, Act.eval, q0, q1, q2, q3, q4, q5, d2]; go_simp; trace_state; sorry)
      | 4, _, ho, hd =>
        obtain rfl := Option.some.inj ho
        clear hd ho
        refine ⟨.int .i16 a0, W, ?_, hS, Below.refl _ _, rfl⟩
        first | (go_simp; done) | (simp only [execOp, Act.eval, q0, q1, q2, q3, q4, q5]; go_simp; done) | (simp only [execOp, Act.eval, q0, q1, q2, q3, q4, q5]; go_simp; rfl) | (simp only [execOp, Act.eval, q0, q1, q2, q3, q4, q5]; go_simp; trace_state; sorry)
      | 5, _, ho, hd =>
        obtain rfl := Option.some.inj ho
        have d4 : a.tmps.getD 25 undef = .int .i16 a0 := hd ⟨4, .data⟩ (by simp) rfl
        clear hd ho
        refine ⟨.int .i64 a0, W, ?_, hS, Below.refl _ _, rfl⟩
        first | (go_simp; done) | (simp only [execOp, Act.eval, q0, q1, q2, q3, q4, q5, d4]; go_simp; done) | (simp only [execOp, Act.eval, q0, q1, q2, q3, q4, q5, d4]; go_simp; rfl) | (simp only [execOp, Act.eval, q0, q1, q2, q3, q4, q5, d4]; go_simp; trace_state; sorry)
      | 6, _, ho, hd =>
        obtain rfl := Option.some.inj ho
        clear hd ho
        refine ⟨.int .i16 a1, W, ?_, hS, Below.refl _ _, rfl⟩
        first | (go_simp; done) | (simp only [execOp, Act.eval, q0, q1, q2, q3, q4, q5]; go_simp; done) | (simp only [execOp, Act.eval, q0, q1, q2, q3, q4, q5]; go_simp; rfl) | (simp only [execOp, Act.eval, q0, q1, q2, q3, q4, q5]; go_simp; trace_state; sorry)
      | 7, _, ho, hd =>
        obtain rfl := Option.some.inj ho
        have d6 : a.tmps.getD 27 undef = .int .i16 a1 := hd ⟨6, .data⟩ (by simp) rfl
        clear hd ho
        refine ⟨.int .i64 a1, W, ?_, hS, Below.refl _ _, rfl⟩
        first | (go_simp; done) | (simp only [execOp, Act.eval, q0, q1, q2, q3, q4, q5, d6]; go_simp; done) | (simp only [execOp, Act.eval, q0, q1, q2, q3, q4, q5, d6]; go_simp; rfl) | (simp only [execOp, Act.eval, q0, q1, q2, q3, q4, q5, d6]; go_simp; trace_state; sorry)
      | 8, _, ho, hd =>
        obtain rfl := Option.some.inj ho
        clear hd ho
        refine ⟨.int .i16 a2, W, ?_, hS, Below.refl _ _, rfl⟩
        first | (go_simp; done) | (simp only [execOp, Act.eval, q0, q1, q2, q3, q4, q5]; go_simp; done) | (simp only [execOp, Act.eval, q0, q1, q2, q3, q4, q5]; go_simp; rfl) | (simp only [execOp, Act.eval, q0, q1, q2, q3, q4, q5]; go_simp; trace_state; sorry)
      | 9, _, ho, hd =>
        obtain rfl := Option.some.inj ho
        have d8 : a.tmps.getD 29 undef = .int .i16 a2 := hd ⟨8, .data⟩ (by simp) rfl
        clear hd ho
        refine ⟨.int .i64 a2, W, ?_, hS, Below.refl _ _, rfl⟩
        first | (go_simp; done) | (simp only [execOp, Act.eval, q0, q1, q2, q3, q4, q5, d8]; go_simp; done) | (simp only [execOp, Act.eval, q0, q1, q2, q3, q4, q5, d8]; go_simp; rfl) | (simp only [execOp, Act.eval, q0, q1, q2, q3, q4, q5, d8]; go_simp; trace_state; sorry)
      | 10, _, ho, hd =>
        obtain rfl := Option.some.inj ho
        clear hd ho
        refine ⟨.int .i16 a3, W, ?_, hS, Below.refl _ _, rfl⟩
        first | (go_simp; done) | (simp only [execOp, Act.eval, q0, q1, q2, q3, q4, q5]; go_simp; done) | (simp only [execOp, Act.eval, q0, q1, q2, q3, q4, q5]; go_simp; rfl) | (simp only [execOp, Act.eval, q0, q1, q2, q3, q4, q5]; go_simp; trace_state; sorry)
      | 11, _, ho, hd =>
        obtain rfl := Option.some.inj ho
        have d10 : a.tmps.getD 31 undef = .int .i16 a3 := hd ⟨10, .data⟩ (by simp) rfl
        clear hd ho
        refine ⟨.int .i64 a3, W, ?_, hS, Below.refl _ _, rfl⟩
        first | (go_simp; done) | (simp only [execOp, Act.eval, q0, q1, q2, q3, q4, q5, d10]; go_simp; done) | (simp only [execOp, Act.eval, q0, q1, q2, q3, q4, q5, d10]; go_simp; rfl) | (simp only [execOp, Act.eval, q0, q1, q2, q3, q4, q5, d10]; go_simp; trace_state; sorry)
      | 12, _, ho, hd =>
        obtain rfl := Option.some.inj ho
        clear hd ho
        refine ⟨.int .u8 (n5 : Int), W, ?_, hS, Below.refl _ _, rfl⟩
        first | (go_simp; done) | (simp only [execOp, Act.eval, q0, q1, q2, q3, q4, q5]; go_simp; done) | (simp only [execOp, Act.eval, q0, q1, q2, q3, q4, q5]; go_simp; rfl) | (simp only [execOp, Act.eval, q0, q1, q2, q3, q4, q5]; go_simp; trace_state; sorry)
      | 13, _, ho, hd =>
        obtain rfl := Option.some.inj ho
        have d12 : a.tmps.getD 33 undef = .int .u8 (n5 : Int) := hd ⟨12, .data⟩ (by simp) rfl
        clear hd ho
        refine ⟨.int .u8 (n1 : Int), W, ?_, hS, Below.refl _ _, rfl⟩
        first | (go_simp; done) | (simp only [execOp, Act.eval, q0, q1, q2, q3, q4, q5, d12]; go_simp; done) | (simp only [execOp, Act.eval, q0, q1, q2, q3, q4, q5, d12]; go_simp; rfl) | (simp only [execOp, Act.eval, q0, q1, q2, q3, q4, q5, d12]; go_simp; trace_state; sorry)
      | 14, _, ho, hd =>
        obtain rfl := Option.some.inj ho
        have d13 : a.tmps.getD 34 undef = .int .u8 (n1 : Int) := hd ⟨13, .data⟩ (by simp) rfl
        clear hd ho
        refine ⟨.int .i64 (n1 : Int), W, ?_, hS, Below.refl _ _, rfl⟩
        first | (go_simp; done) | (simp only [execOp, Act.eval, q0, q1, q2, q3, q4, q5, d13]; go_simp; done) | (simp only [execOp, Act.eval, q0, q1, q2, q3, q4, q5, d13]; go_simp; rfl) | (simp only [execOp, Act.eval, q0, q1, q2, q3, q4, q5, d13]; go_simp; trace_state; sorry)
      | 15, _, ho, hd =>
        obtain rfl := Option.some.inj ho
        have d14 : a.tmps.getD 35 undef = .int .i64 (n1 : Int) := hd ⟨14, .data⟩ (by simp) rfl
        clear hd ho
        refine ⟨.slice (some ⟨W.heap.size, 0, none⟩) n1 n1, W.alloc (.cells (madeCells #[.int .u8 0] n1) 5), ?_, tenementlaw19_GateBounds.st_alloc hS _, tenementlaw19_GateBounds.alloc_below W _, ⟨_, rfl, hS.2, blk_new _ _⟩⟩
        first | (go_simp; done) | (simp only [execOp, Act.eval, q0, q1, q2, q3, q4, q5, d14]; go_simp; done) | (simp only [execOp, Act.eval, q0, q1, q2, q3, q4, q5, d14]; go_simp; rfl) | (simp only [execOp, Act.eval, q0, q1, q2, q3, q4, q5, d14]; go_simp; trace_state; sorry)
      | 16, _, ho, hd =>
        obtain rfl := Option.some.inj ho
        obtain ⟨b, d15, hsb, hbk⟩ : tenementlaw19_GateBounds.Sp s0 n0 n1 n2 n5 a0 a1 a2 a3 15 (a.tmps.getD 36 undef) W := hd ⟨15, .data⟩ (by simp) rfl
        clear hd ho
        refine ⟨.string (strOfNums (List.replicate n1 0)), W, ?_, hS, Below.refl _ _, rfl⟩
        have hcv := run_convert_bytes_arg (P := Try.prog) W 66 5 Try.underlying66 Try.underlying5 b 0 n1 n1 (List.replicate n1 0) (by simp) (fun j hj => by
          rw [Nat.zero_add]
          refine ((blk_cell hbk j).trans (tenementlaw19_GateBounds.made _ _ j hj)).trans ?_
          simp [List.getElem?_replicate, hj]) 9 Try.underlying9
        first | (go_simp; done) | (simp only [execOp, Act.eval, q0, q1, q2, q3, q4, q5, d15]; go_simp; done) | (simp only [execOp, Act.eval, q0, q1, q2, q3, q4, q5, d15]; go_simp; rfl) | (simp only [execOp, Act.eval, q0, q1, q2, q3, q4, q5, d15]; go_simp; trace_state; sorry)
      | 17, _, ho, hd =>
        obtain rfl := Option.some.inj ho
        clear hd ho
        refine ⟨.int .u8 (n5 : Int), W, ?_, hS, Below.refl _ _, rfl⟩
        first | (go_simp; done) | (simp only [execOp, Act.eval, q0, q1, q2, q3, q4, q5]; go_simp; done) | (simp only [execOp, Act.eval, q0, q1, q2, q3, q4, q5]; go_simp; rfl) | (simp only [execOp, Act.eval, q0, q1, q2, q3, q4, q5]; go_simp; trace_state; sorry)
      | 18, _, ho, hd =>
        obtain rfl := Option.some.inj ho
        have d17 : a.tmps.getD 38 undef = .int .u8 (n5 : Int) := hd ⟨17, .data⟩ (by simp) rfl
        clear hd ho
        refine ⟨.int .u8 (n2 : Int), W, ?_, hS, Below.refl _ _, rfl⟩
        first | (go_simp; done) | (simp only [execOp, Act.eval, q0, q1, q2, q3, q4, q5, d17]; go_simp; done) | (simp only [execOp, Act.eval, q0, q1, q2, q3, q4, q5, d17]; go_simp; rfl) | (simp only [execOp, Act.eval, q0, q1, q2, q3, q4, q5, d17]; go_simp; trace_state; sorry)
      | 19, _, ho, hd =>
        obtain rfl := Option.some.inj ho
        have d18 : a.tmps.getD 39 undef = .int .u8 (n2 : Int) := hd ⟨18, .data⟩ (by simp) rfl
        clear hd ho
        refine ⟨.int .i64 (n2 : Int), W, ?_, hS, Below.refl _ _, rfl⟩
        first | (go_simp; done) | (simp only [execOp, Act.eval, q0, q1, q2, q3, q4, q5, d18]; go_simp; done) | (simp only [execOp, Act.eval, q0, q1, q2, q3, q4, q5, d18]; go_simp; rfl) | (simp only [execOp, Act.eval, q0, q1, q2, q3, q4, q5, d18]; go_simp; trace_state; sorry)
      | 20, _, ho, hd =>
        obtain rfl := Option.some.inj ho
        have d19 : a.tmps.getD 40 undef = .int .i64 (n2 : Int) := hd ⟨19, .data⟩ (by simp) rfl
        clear hd ho
        refine ⟨.slice (some ⟨W.heap.size, 0, none⟩) n2 n2, W.alloc (.cells (madeCells #[.int .u8 0] n2) 5), ?_, tenementlaw19_GateBounds.st_alloc hS _, tenementlaw19_GateBounds.alloc_below W _, ⟨_, rfl, hS.2, blk_new _ _⟩⟩
        first | (go_simp; done) | (simp only [execOp, Act.eval, q0, q1, q2, q3, q4, q5, d19]; go_simp; done) | (simp only [execOp, Act.eval, q0, q1, q2, q3, q4, q5, d19]; go_simp; rfl) | (simp only [execOp, Act.eval, q0, q1, q2, q3, q4, q5, d19]; go_simp; trace_state; sorry)
      | 21, _, ho, hd =>
        obtain rfl := Option.some.inj ho
        obtain ⟨b, d20, hsb, hbk⟩ : tenementlaw19_GateBounds.Sp s0 n0 n1 n2 n5 a0 a1 a2 a3 20 (a.tmps.getD 41 undef) W := hd ⟨20, .data⟩ (by simp) rfl
        clear hd ho
        refine ⟨.string (strOfNums (List.replicate n2 0)), W, ?_, hS, Below.refl _ _, rfl⟩
        have hcv := run_convert_bytes_arg (P := Try.prog) W 66 5 Try.underlying66 Try.underlying5 b 0 n2 n2 (List.replicate n2 0) (by simp) (fun j hj => by
          rw [Nat.zero_add]
          refine ((blk_cell hbk j).trans (tenementlaw19_GateBounds.made _ _ j hj)).trans ?_
          simp [List.getElem?_replicate, hj]) 9 Try.underlying9
        first | (go_simp; done) | (simp only [execOp, Act.eval, q0, q1, q2, q3, q4, q5, d20]; go_simp; done) | (simp only [execOp, Act.eval, q0, q1, q2, q3, q4, q5, d20]; go_simp; rfl) | (simp only [execOp, Act.eval, q0, q1, q2, q3, q4, q5, d20]; go_simp; trace_state; sorry)
      | 22, _, ho, hd =>
        obtain rfl := Option.some.inj ho
        have d3 : a.tmps.getD 24 undef = .string (strOfNums (List.replicate n0 0)) := hd ⟨3, .data⟩ (by simp) rfl
        have d5 : a.tmps.getD 26 undef = .int .i64 a0 := hd ⟨5, .data⟩ (by simp) rfl
        have d7 : a.tmps.getD 28 undef = .int .i64 a1 := hd ⟨7, .data⟩ (by simp) rfl
        have d9 : a.tmps.getD 30 undef = .int .i64 a2 := hd ⟨9, .data⟩ (by simp) rfl
        have d11 : a.tmps.getD 32 undef = .int .i64 a3 := hd ⟨11, .data⟩ (by simp) rfl
        have d16 : a.tmps.getD 37 undef = .string (strOfNums (List.replicate n1 0)) := hd ⟨16, .data⟩ (by simp) rfl
        have d21 : a.tmps.getD 42 undef = .string (strOfNums (List.replicate n2 0)) := hd ⟨21, .data⟩ (by simp) rfl
        clear hd ho
        refine ⟨.agg #[.string (strOfNums (List.replicate n0 0)), .int .i64 a0, .int .i64 a1, .int .i64 a2, .int .i64 a3, .string (strOfNums (List.replicate n1 0)), .string ⟨#[107]⟩, .string (strOfNums (List.replicate n2 0))], W, ?_, hS, Below.refl _ _, rfl⟩
        have g3 := (Array.getD_eq_getD_getElem? (xs := a.tmps) (i := 24) (d := undef)).symm.trans d3
        have g5 := (Array.getD_eq_getD_getElem? (xs := a.tmps) (i := 26) (d := undef)).symm.trans d5
        have g7 := (Array.getD_eq_getD_getElem? (xs := a.tmps) (i := 28) (d := undef)).symm.trans d7
        have g9 := (Array.getD_eq_getD_getElem? (xs := a.tmps) (i := 30) (d := undef)).symm.trans d9
        have g11 := (Array.getD_eq_getD_getElem? (xs := a.tmps) (i := 32) (d := undef)).symm.trans d11
        have g16 := (Array.getD_eq_getD_getElem? (xs := a.tmps) (i := 37) (d := undef)).symm.trans d16
        have g21 := (Array.getD_eq_getD_getElem? (xs := a.tmps) (i := 42) (d := undef)).symm.trans d21
        go_simp
      | 23, _, ho, hd =>
        obtain rfl := Option.some.inj ho
        clear hd ho
        refine ⟨.pointer (some ⟨W.heap.size, 0, none⟩), W.alloc (.cells #[.string ⟨#[]⟩, .int .i64 0, .int .i64 0, .int .i64 0, .int .i64 0, .string ⟨#[]⟩, .string ⟨#[]⟩, .string ⟨#[]⟩] 23), ?_, tenementlaw19_GateBounds.st_alloc hS _, tenementlaw19_GateBounds.alloc_below W _, ⟨_, rfl, hS.2, blk_new _ _⟩⟩
        first | (go_simp; done) | (simp only [execOp, Act.eval, q0, q1, q2, q3, q4, q5]; go_simp; done) | (simp only [execOp, Act.eval, q0, q1, q2, q3, q4, q5]; go_simp; rfl) | (simp only [execOp, Act.eval, q0, q1, q2, q3, q4, q5]; go_simp; trace_state; sorry)
      | _ + 24, hi, _, _ => omega
    case hend =>
      intro a W hS hL hA
      have q0 : a.tmps.getD 0 undef = .int .i16 a0 := hL.2.2 0 (by decide)
      have q1 : a.tmps.getD 1 undef = .int .i16 a1 := hL.2.2 1 (by decide)
      have q2 : a.tmps.getD 2 undef = .int .i16 a2 := hL.2.2 2 (by decide)
      have q3 : a.tmps.getD 3 undef = .int .i16 a3 := hL.2.2 3 (by decide)
      have q4 : a.tmps.getD 4 undef = .int .u8 (n0 : Int) := hL.2.2 4 (by decide)
      have q5 : a.tmps.getD 5 undef = .int .u8 (n5 : Int) := hL.2.2 5 (by decide)
      have q6 : a.tmps.getD 6 undef = undef := hL.2.2 6 (by decide)
      have q7 : a.tmps.getD 7 undef = undef := hL.2.2 7 (by decide)
      have q8 : a.tmps.getD 8 undef = undef := hL.2.2 8 (by decide)
      have q9 : a.tmps.getD 9 undef = undef := hL.2.2 9 (by decide)
      have q10 : a.tmps.getD 10 undef = undef := hL.2.2 10 (by decide)
      have q11 : a.tmps.getD 11 undef = undef := hL.2.2 11 (by decide)
      have q12 : a.tmps.getD 12 undef = .bool false := hL.2.2 12 (by decide)
      have q13 : a.tmps.getD 13 undef = .bool true := hL.2.2 13 (by decide)
      have q15 : a.tmps.getD 15 undef = undef := hL.2.2 15 (by decide)
      have q16 : a.tmps.getD 16 undef = undef := hL.2.2 16 (by decide)
      have q17 : a.tmps.getD 17 undef = undef := hL.2.2 17 (by decide)
      have q18 : a.tmps.getD 18 undef = .bool true := hL.2.2 18 (by decide)
      have q19 : a.tmps.getD 19 undef = .bool true := hL.2.2 19 (by decide)
      have q20 : a.tmps.getD 20 undef = .bool false := hL.2.2 20 (by decide)
      have q44 : a.tmps.getD 44 undef = undef := hL.2.2 44 (by decide)
      have q45 : a.tmps.getD 45 undef = undef := hL.2.2 45 (by decide)
      have q46 : a.tmps.getD 46 undef = undef := hL.2.2 46 (by decide)
      have q47 : a.tmps.getD 47 undef = undef := hL.2.2 47 (by decide)
      have q48 : a.tmps.getD 48 undef = undef := hL.2.2 48 (by decide)
      have q49 : a.tmps.getD 49 undef = undef := hL.2.2 49 (by decide)
      have q50 : a.tmps.getD 50 undef = undef := hL.2.2 50 (by decide)
      have q51 : a.tmps.getD 51 undef = undef := hL.2.2 51 (by decide)
      have q52 : a.tmps.getD 52 undef = undef := hL.2.2 52 (by decide)
      have q53 : a.tmps.getD 53 undef = undef := hL.2.2 53 (by decide)
      have q54 : a.tmps.getD 54 undef = undef := hL.2.2 54 (by decide)
      have q55 : a.tmps.getD 55 undef = undef := hL.2.2 55 (by decide)
      have q56 : a.tmps.getD 56 undef = undef := hL.2.2 56 (by decide)
      have q57 : a.tmps.getD 57 undef = undef := hL.2.2 57 (by decide)
      have q58 : a.tmps.getD 58 undef = undef := hL.2.2 58 (by decide)
      have q59 : a.tmps.getD 59 undef = undef := hL.2.2 59 (by decide)
      have q60 : a.tmps.getD 60 undef = undef := hL.2.2 60 (by decide)
      have q61 : a.tmps.getD 61 undef = undef := hL.2.2 61 (by decide)
      have q62 : a.tmps.getD 62 undef = undef := hL.2.2 62 (by decide)
      have q63 : a.tmps.getD 63 undef = undef := hL.2.2 63 (by decide)
      have q64 : a.tmps.getD 64 undef = undef := hL.2.2 64 (by decide)
      have q65 : a.tmps.getD 65 undef = undef := hL.2.2 65 (by decide)
      have q66 : a.tmps.getD 66 undef = undef := hL.2.2 66 (by decide)
      have q67 : a.tmps.getD 67 undef = undef := hL.2.2 67 (by decide)
      have q68 : a.tmps.getD 68 undef = undef := hL.2.2 68 (by decide)
      have q69 : a.tmps.getD 69 undef = undef := hL.2.2 69 (by decide)
      have q70 : a.tmps.getD 70 undef = undef := hL.2.2 70 (by decide)
      have q71 : a.tmps.getD 71 undef = undef := hL.2.2 71 (by decide)
      have q72 : a.tmps.getD 72 undef = undef := hL.2.2 72 (by decide)
      have q73 : a.tmps.getD 73 undef = undef := hL.2.2 73 (by decide)
      have q74 : a.tmps.getD 74 undef = undef := hL.2.2 74 (by decide)
      have q75 : a.tmps.getD 75 undef = undef := hL.2.2 75 (by decide)
      have q76 : a.tmps.getD 76 undef = undef := hL.2.2 76 (by decide)
      have q77 : a.tmps.getD 77 undef = undef := hL.2.2 77 (by decide)
      have q78 : a.tmps.getD 78 undef = undef := hL.2.2 78 (by decide)
      have q79 : a.tmps.getD 79 undef = undef := hL.2.2 79 (by decide)
      have q80 : a.tmps.getD 80 undef = undef := hL.2.2 80 (by decide)
      have q81 : a.tmps.getD 81 undef = undef := hL.2.2 81 (by decide)
      have q82 : a.tmps.getD 82 undef = undef := hL.2.2 82 (by decide)
      have q83 : a.tmps.getD 83 undef = undef := hL.2.2 83 (by decide)
      have q84 : a.tmps.getD 84 undef = undef := hL.2.2 84 (by decide)
      have q85 : a.tmps.getD 85 undef = undef := hL.2.2 85 (by decide)
      have q86 : a.tmps.getD 86 undef = undef := hL.2.2 86 (by decide)
      have q87 : a.tmps.getD 87 undef = undef := hL.2.2 87 (by decide)
      have q88 : a.tmps.getD 88 undef = undef := hL.2.2 88 (by decide)
      have q89 : a.tmps.getD 89 undef = undef := hL.2.2 89 (by decide)
      have q90 : a.tmps.getD 90 undef = undef := hL.2.2 90 (by decide)
      have q91 : a.tmps.getD 91 undef = undef := hL.2.2 91 (by decide)
      have q92 : a.tmps.getD 92 undef = undef := hL.2.2 92 (by decide)
      have q93 : a.tmps.getD 93 undef = undef := hL.2.2 93 (by decide)
      have q94 : a.tmps.getD 94 undef = undef := hL.2.2 94 (by decide)
      have q95 : a.tmps.getD 95 undef = undef := hL.2.2 95 (by decide)
      have q96 : a.tmps.getD 96 undef = undef := hL.2.2 96 (by decide)
      have q97 : a.tmps.getD 97 undef = undef := hL.2.2 97 (by decide)
      have q98 : a.tmps.getD 98 undef = undef := hL.2.2 98 (by decide)
      have q99 : a.tmps.getD 99 undef = undef := hL.2.2 99 (by decide)
      have q100 : a.tmps.getD 100 undef = undef := hL.2.2 100 (by decide)
      have q101 : a.tmps.getD 101 undef = undef := hL.2.2 101 (by decide)
      have q102 : a.tmps.getD 102 undef = undef := hL.2.2 102 (by decide)
      have q103 : a.tmps.getD 103 undef = undef := hL.2.2 103 (by decide)
      have q104 : a.tmps.getD 104 undef = undef := hL.2.2 104 (by decide)
      have q105 : a.tmps.getD 105 undef = undef := hL.2.2 105 (by decide)
      have q106 : a.tmps.getD 106 undef = undef := hL.2.2 106 (by decide)
      have q107 : a.tmps.getD 107 undef = undef := hL.2.2 107 (by decide)
      have q108 : a.tmps.getD 108 undef = undef := hL.2.2 108 (by decide)
      have q109 : a.tmps.getD 109 undef = undef := hL.2.2 109 (by decide)
      have q110 : a.tmps.getD 110 undef = undef := hL.2.2 110 (by decide)
      have q21 : a.tmps.getD 21 undef = .int .u8 (n0 : Int) := hA 0 (by decide)
      have q22 : a.tmps.getD 22 undef = .int .i64 (n0 : Int) := hA 1 (by decide)
      obtain ⟨b23, q23, s23, k23⟩ : tenementlaw19_GateBounds.Sp s0 n0 n1 n2 n5 a0 a1 a2 a3 2 (a.tmps.getD 23 undef) W := hA 2 (by decide)
      have q24 : a.tmps.getD 24 undef = .string (strOfNums (List.replicate n0 0)) := hA 3 (by decide)
      have q25 : a.tmps.getD 25 undef = .int .i16 a0 := hA 4 (by decide)
      have q26 : a.tmps.getD 26 undef = .int .i64 a0 := hA 5 (by decide)
      have q27 : a.tmps.getD 27 undef = .int .i16 a1 := hA 6 (by decide)
      have q28 : a.tmps.getD 28 undef = .int .i64 a1 := hA 7 (by decide)
      have q29 : a.tmps.getD 29 undef = .int .i16 a2 := hA 8 (by decide)
      have q30 : a.tmps.getD 30 undef = .int .i64 a2 := hA 9 (by decide)
      have q31 : a.tmps.getD 31 undef = .int .i16 a3 := hA 10 (by decide)
      have q32 : a.tmps.getD 32 undef = .int .i64 a3 := hA 11 (by decide)
      have q33 : a.tmps.getD 33 undef = .int .u8 (n5 : Int) := hA 12 (by decide)
      have q34 : a.tmps.getD 34 undef = .int .u8 (n1 : Int) := hA 13 (by decide)
      have q35 : a.tmps.getD 35 undef = .int .i64 (n1 : Int) := hA 14 (by decide)
      obtain ⟨b36, q36, s36, k36⟩ : tenementlaw19_GateBounds.Sp s0 n0 n1 n2 n5 a0 a1 a2 a3 15 (a.tmps.getD 36 undef) W := hA 15 (by decide)
      have q37 : a.tmps.getD 37 undef = .string (strOfNums (List.replicate n1 0)) := hA 16 (by decide)
      have q38 : a.tmps.getD 38 undef = .int .u8 (n5 : Int) := hA 17 (by decide)
      have q39 : a.tmps.getD 39 undef = .int .u8 (n2 : Int) := hA 18 (by decide)
      have q40 : a.tmps.getD 40 undef = .int .i64 (n2 : Int) := hA 19 (by decide)
      obtain ⟨b41, q41, s41, k41⟩ : tenementlaw19_GateBounds.Sp s0 n0 n1 n2 n5 a0 a1 a2 a3 20 (a.tmps.getD 41 undef) W := hA 20 (by decide)
      have q42 : a.tmps.getD 42 undef = .string (strOfNums (List.replicate n2 0)) := hA 21 (by decide)
      have q43 : a.tmps.getD 43 undef = .agg #[.string (strOfNums (List.replicate n0 0)), .int .i64 a0, .int .i64 a1, .int .i64 a2, .int .i64 a3, .string (strOfNums (List.replicate n1 0)), .string ⟨#[107]⟩, .string (strOfNums (List.replicate n2 0))] := hA 22 (by decide)
      obtain ⟨b14, q14, s14, k14⟩ : tenementlaw19_GateBounds.Sp s0 n0 n1 n2 n5 a0 a1 a2 a3 23 (a.tmps.getD 14 undef) W := hA 23 (by decide)
      have ht : a.tmps = #[.int .i16 a0, .int .i16 a1, .int .i16 a2, .int .i16 a3, .int .u8 (n0 : Int), .int .u8 (n5 : Int), undef, undef, undef, undef, undef, undef, .bool false, .bool true, .pointer (some ⟨b14, 0, none⟩), undef, undef, undef, .bool true, .bool true, .bool false, .int .u8 (n0 : Int), .int .i64 (n0 : Int), .slice (some ⟨b23, 0, none⟩) n0 n0, .string (strOfNums (List.replicate n0 0)), .int .i16 a0, .int .i64 a0, .int .i16 a1, .int .i64 a1, .int .i16 a2, .int .i64 a2, .int .i16 a3, .int .i64 a3, .int .u8 (n5 : Int), .int .u8 (n1 : Int), .int .i64 (n1 : Int), .slice (some ⟨b36, 0, none⟩) n1 n1, .string (strOfNums (List.replicate n1 0)), .int .u8 (n5 : Int), .int .u8 (n2 : Int), .int .i64 (n2 : Int), .slice (some ⟨b41, 0, none⟩) n2 n2, .string (strOfNums (List.replicate n2 0)), .agg #[.string (strOfNums (List.replicate n0 0)), .int .i64 a0, .int .i64 a1, .int .i64 a2, .int .i64 a3, .string (strOfNums (List.replicate n1 0)), .string ⟨#[107]⟩, .string (strOfNums (List.replicate n2 0))], undef, undef, undef, undef, undef, undef, undef, undef, undef, undef, undef, undef, undef, undef, undef, undef, undef, undef, undef, undef, undef, undef, undef, undef, undef, undef, undef, undef, undef, undef, undef, undef, undef, undef, undef, undef, undef, undef, undef, undef, undef, undef, undef, undef, undef, undef, undef, undef, undef, undef, undef, undef, undef, undef, undef, undef, undef, undef, undef, undef, undef, undef, undef, undef, undef, undef, undef] := by
        rw [Go.Proofs.Ytplgbkobpanbfaa.Inv.tmps_eq a 111 hL.2.1, show List.range 111 = [0, 1, 2, 3, 4, 5, 6, 7, 8, 9, 10, 11, 12, 13, 14, 15, 16, 17, 18, 19, 20, 21, 22, 23, 24, 25, 26, 27, 28, 29, 30, 31, 32, 33, 34, 35, 36, 37, 38, 39, 40, 41, 42, 43, 44, 45, 46, 47, 48, 49, 50, 51, 52, 53, 54, 55, 56, 57, 58, 59, 60, 61, 62, 63, 64, 65, 66, 67, 68, 69, 70, 71, 72, 73, 74, 75, 76, 77, 78, 79, 80, 81, 82, 83, 84, 85, 86, 87, 88, 89, 90, 91, 92, 93, 94, 95, 96, 97, 98, 99, 100, 101, 102, 103, 104, 105, 106, 107, 108, 109, 110] from rfl]
        simp only [List.map_cons, List.map_nil, q0, q1, q2, q3, q4, q5, q6, q7, q8, q9, q10, q11, q12, q13, q14, q15, q16, q17, q18, q19, q20, q21, q22, q23, q24, q25, q26, q27, q28, q29, q30, q31, q32, q33, q34, q35, q36, q37, q38, q39, q40, q41, q42, q43, q44, q45, q46, q47, q48, q49, q50, q51, q52, q53, q54, q55, q56, q57, q58, q59, q60, q61, q62, q63, q64, q65, q66, q67, q68, q69, q70, q71, q72, q73, q74, q75, q76, q77, q78, q79, q80, q81, q82, q83, q84, q85, q86, q87, q88, q89, q90, q91, q92, q93, q94, q95, q96, q97, q98, q99, q100, q101, q102, q103, q104, q105, q106, q107, q108, q109, q110]
      clear q0 q1 q2 q3 q4 q5 q6 q7 q8 q9 q10 q11 q12 q13 q14 q15 q16 q17 q18 q19 q20 q21 q22 q23 q24 q25 q26 q27 q28 q29 q30 q31 q32 q33 q34 q35 q36 q37 q38 q39 q40 q41 q42 q43 q44 q45 q46 q47 q48 q49 q50 q51 q52 q53 q54 q55 q56 q57 q58 q59 q60 q61 q62 q63 q64 q65 q66 q67 q68 q69 q70 q71 q72 q73 q74 q75 q76 q77 q78 q79 q80 q81 q82 q83 q84 q85 q86 q87 q88 q89 q90 q91 q92 q93 q94 q95 q96 q97 q98 q99 q100 q101 q102 q103 q104 q105 q106 q107 q108 q109 q110 k23 k36 k41 s23 s36 s41
      obtain ⟨tm, df⟩ := a
      obtain rfl : df = [] := hL.1
      obtain rfl : tm = _ := ht
      have gb : w.heap.size ≤ b14 := by omega
      have BK := Aside0.mk (blk_put (blk_put (blk_put (blk_put (blk_put (blk_put (blk_put (blk_put (k14) 0 (.string (strOfNums (List.replicate n0 0))) (cs' := #[.string (strOfNums (List.replicate n0 0)), .int .i64 0, .int .i64 0, .int .i64 0, .int .i64 0, .string ⟨#[]⟩, .string ⟨#[]⟩, .string ⟨#[]⟩]) rfl) 1 (.int .i64 a0) (cs' := #[.string (strOfNums (List.replicate n0 0)), .int .i64 a0, .int .i64 0, .int .i64 0, .int .i64 0, .string ⟨#[]⟩, .string ⟨#[]⟩, .string ⟨#[]⟩]) rfl) 2 (.int .i64 a1) (cs' := #[.string (strOfNums (List.replicate n0 0)), .int .i64 a0, .int .i64 a1, .int .i64 0, .int .i64 0, .string ⟨#[]⟩, .string ⟨#[]⟩, .string ⟨#[]⟩]) rfl) 3 (.int .i64 a2) (cs' := #[.string (strOfNums (List.replicate n0 0)), .int .i64 a0, .int .i64 a1, .int .i64 a2, .int .i64 0, .string ⟨#[]⟩, .string ⟨#[]⟩, .string ⟨#[]⟩]) rfl) 4 (.int .i64 a3) (cs' := #[.string (strOfNums (List.replicate n0 0)), .int .i64 a0, .int .i64 a1, .int .i64 a2, .int .i64 a3, .string ⟨#[]⟩, .string ⟨#[]⟩, .string ⟨#[]⟩]) rfl) 5 (.string (strOfNums (List.replicate n1 0))) (cs' := #[.string (strOfNums (List.replicate n0 0)), .int .i64 a0, .int .i64 a1, .int .i64 a2, .int .i64 a3, .string (strOfNums (List.replicate n1 0)), .string ⟨#[]⟩, .string ⟨#[]⟩]) rfl) 6 (.string ⟨#[107]⟩) (cs' := #[.string (strOfNums (List.replicate n0 0)), .int .i64 a0, .int .i64 a1, .int .i64 a2, .int .i64 a3, .string (strOfNums (List.replicate n1 0)), .string ⟨#[107]⟩, .string ⟨#[]⟩]) rfl) 7 (.string (strOfNums (List.replicate n2 0))) (cs' := #[.string (strOfNums (List.replicate n0 0)), .int .i64 a0, .int .i64 a1, .int .i64 a2, .int .i64 a3, .string (strOfNums (List.replicate n1 0)), .string ⟨#[107]⟩, .string (strOfNums (List.replicate n2 0))]) rfl)
      have HB := Aside0.mk (below_set (j := 7) (v := .string (strOfNums (List.replicate n2 0))) (below_set (j := 6) (v := .string ⟨#[107]⟩) (below_set (j := 5) (v := .string (strOfNums (List.replicate n1 0))) (below_set (j := 4) (v := .int .i64 a3) (below_set (j := 3) (v := .int .i64 a2) (below_set (j := 2) (v := .int .i64 a1) (below_set (j := 1) (v := .int .i64 a0) (below_set (j := 0) (v := .string (strOfNums (List.replicate n0 0))) (hS.1) gb) gb) gb) gb) gb) gb) gb) gb)
      obtain ⟨x0, x1, x2, x3, x4, x5, x6, x7, z0, z1, z2, z3, z4, z5, z6, z7⟩ := Ke8_ k14
      clear hL hA hst
      refine tenementlaw19_GateBounds.op_some (i := 24) rfl rfl ?_
      unfold Oper.wp
      go_simp
      clear x0 x1 x2 x3 x4 x5 x6 x7 z0 z1 z2 z3 z4 z5 z6 z7 k14 hS
      generalize ((((((((W.setCell ⟨b14, 0, none⟩ (.string (strOfNums (List.replicate n0 0)))).setCell ⟨b14, 1, none⟩ (.int .i64 a0)).setCell ⟨b14, 2, none⟩ (.int .i64 a1)).setCell ⟨b14, 3, none⟩ (.int .i64 a2)).setCell ⟨b14, 4, none⟩ (.int .i64 a3)).setCell ⟨b14, 5, none⟩ (.string (strOfNums (List.replicate n1 0)))).setCell ⟨b14, 6, none⟩ (.string ⟨#[107]⟩)).setCell ⟨b14, 7, none⟩ (.string (strOfNums (List.replicate n2 0)))) = W2 at *
      unfold tenementlaw19_GateBounds.zs at HP HR
      generalize (strOfNums (List.replicate n0 0)) = T0 at *
      generalize (strOfNums (List.replicate n1 0)) = T1 at *
      generalize (strOfNums (List.replicate n2 0)) = T2 at *
      clear w0 w1 w2 u0 u1 u2 u3 W s14
      obtain ⟨x0, x1, x2, x3, x4, x5, x6, x7, z0, z1, z2, z3, z4, z5, z6, z7⟩ := Ke8_ BK.out
      by_cases c0 : 0 ≤ a0
      rotate_left
      · have p0 : decide (0 ≤ a0) = false := decide_eq_false c0
        have hv : tenementlaw19_GateBounds.want a0 a1 a2 a3 n0 n1 n2 = false := by
          unfold tenementlaw19_GateBounds.want
          rw [decide_eq_false c0]
          rfl
        have HP' := HP.out
        have HR' := HR.out
        have HC' := HC.out
        rw [hv] at HP' HR' HC'
        have HC2 : (ps.toList == ([] : List UInt8)) = true := by
          revert HC'
          unfold bne
          cases (ps.toList == ([] : List UInt8)) <;> simp
        replace HP := Aside0.mk HP'
        replace HR := Aside0.mk HR'
        clear HC hv HP' HR'
        go_wp2_with (first | (go_at_call 11; refine (gate_Put.calls k T0 a0 a1 a2 a3 T1 ⟨#[107]⟩ T2 ps false _ HP.out).mono ?_; rintro e w1 ⟨rfl, hb⟩; have BK1 := blk_below BK.out hb; replace HB := Aside0.mk (below_step HB.out hb); clear hb x0 x1 x2 x3 x4 x5 x6 x7 z0 z1 z2 z3 z4 z5 z6 z7 BK; obtain ⟨x0, x1, x2, x3, x4, x5, x6, x7, z0, z1, z2, z3, z4, z5, z6, z7⟩ := Ke8_ BK1; clear BK1) | (go_at_call 15; refine (gate_Right.calls T0 a0 a1 a2 a3 T1 ⟨#[107]⟩ T2 false _ HR.out).mono ?_; rintro e w2 ⟨rfl, hb⟩; replace HB := Aside0.mk (below_step HB.out hb); clear hb))
        go_ret
        exact ⟨rfl, HB.out⟩
      have p0 : decide (0 ≤ a0) = true := decide_eq_true c0
      by_cases c1 : a0 ≤ 255
      rotate_left
      · have p1 : decide (a0 ≤ 255) = false := decide_eq_false c1
        have hv : tenementlaw19_GateBounds.want a0 a1 a2 a3 n0 n1 n2 = false := by
          unfold tenementlaw19_GateBounds.want
          rw [decide_eq_true c0, decide_eq_false c1]
          rfl
        have HP' := HP.out
        have HR' := HR.out
        have HC' := HC.out
        rw [hv] at HP' HR' HC'
        have HC2 : (ps.toList == ([] : List UInt8)) = true := by
          revert HC'
          unfold bne
          cases (ps.toList == ([] : List UInt8)) <;> simp
        replace HP := Aside0.mk HP'
        replace HR := Aside0.mk HR'
        clear HC hv HP' HR'
        go_wp2_with (first | (go_at_call 11; refine (gate_Put.calls k T0 a0 a1 a2 a3 T1 ⟨#[107]⟩ T2 ps false _ HP.out).mono ?_; rintro e w1 ⟨rfl, hb⟩; have BK1 := blk_below BK.out hb; replace HB := Aside0.mk (below_step HB.out hb); clear hb x0 x1 x2 x3 x4 x5 x6 x7 z0 z1 z2 z3 z4 z5 z6 z7 BK; obtain ⟨x0, x1, x2, x3, x4, x5, x6, x7, z0, z1, z2, z3, z4, z5, z6, z7⟩ := Ke8_ BK1; clear BK1) | (go_at_call 15; refine (gate_Right.calls T0 a0 a1 a2 a3 T1 ⟨#[107]⟩ T2 false _ HR.out).mono ?_; rintro e w2 ⟨rfl, hb⟩; replace HB := Aside0.mk (below_step HB.out hb); clear hb))
        go_ret
        exact ⟨rfl, HB.out⟩
      have p1 : decide (a0 ≤ 255) = true := decide_eq_true c1
      by_cases c2 : 0 ≤ a1
      rotate_left
      · have p2 : decide (0 ≤ a1) = false := decide_eq_false c2
        have hv : tenementlaw19_GateBounds.want a0 a1 a2 a3 n0 n1 n2 = false := by
          unfold tenementlaw19_GateBounds.want
          rw [decide_eq_true c0, decide_eq_true c1, decide_eq_false c2]
          rfl
        have HP' := HP.out
        have HR' := HR.out
        have HC' := HC.out
        rw [hv] at HP' HR' HC'
        have HC2 : (ps.toList == ([] : List UInt8)) = true := by
          revert HC'
          unfold bne
          cases (ps.toList == ([] : List UInt8)) <;> simp
        replace HP := Aside0.mk HP'
        replace HR := Aside0.mk HR'
        clear HC hv HP' HR'
        go_wp2_with (first | (go_at_call 11; refine (gate_Put.calls k T0 a0 a1 a2 a3 T1 ⟨#[107]⟩ T2 ps false _ HP.out).mono ?_; rintro e w1 ⟨rfl, hb⟩; have BK1 := blk_below BK.out hb; replace HB := Aside0.mk (below_step HB.out hb); clear hb x0 x1 x2 x3 x4 x5 x6 x7 z0 z1 z2 z3 z4 z5 z6 z7 BK; obtain ⟨x0, x1, x2, x3, x4, x5, x6, x7, z0, z1, z2, z3, z4, z5, z6, z7⟩ := Ke8_ BK1; clear BK1) | (go_at_call 15; refine (gate_Right.calls T0 a0 a1 a2 a3 T1 ⟨#[107]⟩ T2 false _ HR.out).mono ?_; rintro e w2 ⟨rfl, hb⟩; replace HB := Aside0.mk (below_step HB.out hb); clear hb))
        go_ret
        exact ⟨rfl, HB.out⟩
      have p2 : decide (0 ≤ a1) = true := decide_eq_true c2
      by_cases c3 : a1 ≤ 255
      rotate_left
      · have p3 : decide (a1 ≤ 255) = false := decide_eq_false c3
        have hv : tenementlaw19_GateBounds.want a0 a1 a2 a3 n0 n1 n2 = false := by
          unfold tenementlaw19_GateBounds.want
          rw [decide_eq_true c0, decide_eq_true c1, decide_eq_true c2, decide_eq_false c3]
          rfl
        have HP' := HP.out
        have HR' := HR.out
        have HC' := HC.out
        rw [hv] at HP' HR' HC'
        have HC2 : (ps.toList == ([] : List UInt8)) = true := by
          revert HC'
          unfold bne
          cases (ps.toList == ([] : List UInt8)) <;> simp
        replace HP := Aside0.mk HP'
        replace HR := Aside0.mk HR'
        clear HC hv HP' HR'
        go_wp2_with (first | (go_at_call 11; refine (gate_Put.calls k T0 a0 a1 a2 a3 T1 ⟨#[107]⟩ T2 ps false _ HP.out).mono ?_; rintro e w1 ⟨rfl, hb⟩; have BK1 := blk_below BK.out hb; replace HB := Aside0.mk (below_step HB.out hb); clear hb x0 x1 x2 x3 x4 x5 x6 x7 z0 z1 z2 z3 z4 z5 z6 z7 BK; obtain ⟨x0, x1, x2, x3, x4, x5, x6, x7, z0, z1, z2, z3, z4, z5, z6, z7⟩ := Ke8_ BK1; clear BK1) | (go_at_call 15; refine (gate_Right.calls T0 a0 a1 a2 a3 T1 ⟨#[107]⟩ T2 false _ HR.out).mono ?_; rintro e w2 ⟨rfl, hb⟩; replace HB := Aside0.mk (below_step HB.out hb); clear hb))
        go_ret
        exact ⟨rfl, HB.out⟩
      have p3 : decide (a1 ≤ 255) = true := decide_eq_true c3
      by_cases c4 : 0 ≤ a2
      rotate_left
      · have p4 : decide (0 ≤ a2) = false := decide_eq_false c4
        have hv : tenementlaw19_GateBounds.want a0 a1 a2 a3 n0 n1 n2 = false := by
          unfold tenementlaw19_GateBounds.want
          rw [decide_eq_true c0, decide_eq_true c1, decide_eq_true c2, decide_eq_true c3, decide_eq_false c4]
          rfl
        have HP' := HP.out
        have HR' := HR.out
        have HC' := HC.out
        rw [hv] at HP' HR' HC'
        have HC2 : (ps.toList == ([] : List UInt8)) = true := by
          revert HC'
          unfold bne
          cases (ps.toList == ([] : List UInt8)) <;> simp
        replace HP := Aside0.mk HP'
        replace HR := Aside0.mk HR'
        clear HC hv HP' HR'
        go_wp2_with (first | (go_at_call 11; refine (gate_Put.calls k T0 a0 a1 a2 a3 T1 ⟨#[107]⟩ T2 ps false _ HP.out).mono ?_; rintro e w1 ⟨rfl, hb⟩; have BK1 := blk_below BK.out hb; replace HB := Aside0.mk (below_step HB.out hb); clear hb x0 x1 x2 x3 x4 x5 x6 x7 z0 z1 z2 z3 z4 z5 z6 z7 BK; obtain ⟨x0, x1, x2, x3, x4, x5, x6, x7, z0, z1, z2, z3, z4, z5, z6, z7⟩ := Ke8_ BK1; clear BK1) | (go_at_call 15; refine (gate_Right.calls T0 a0 a1 a2 a3 T1 ⟨#[107]⟩ T2 false _ HR.out).mono ?_; rintro e w2 ⟨rfl, hb⟩; replace HB := Aside0.mk (below_step HB.out hb); clear hb))
        go_ret
        exact ⟨rfl, HB.out⟩
      have p4 : decide (0 ≤ a2) = true := decide_eq_true c4
      by_cases c5 : a2 ≤ 255
      rotate_left
      · have p5 : decide (a2 ≤ 255) = false := decide_eq_false c5
        have hv : tenementlaw19_GateBounds.want a0 a1 a2 a3 n0 n1 n2 = false := by
          unfold tenementlaw19_GateBounds.want
          rw [decide_eq_true c0, decide_eq_true c1, decide_eq_true c2, decide_eq_true c3, decide_eq_true c4, decide_eq_false c5]
          rfl
        have HP' := HP.out
        have HR' := HR.out
        have HC' := HC.out
        rw [hv] at HP' HR' HC'
        have HC2 : (ps.toList == ([] : List UInt8)) = true := by
          revert HC'
          unfold bne
          cases (ps.toList == ([] : List UInt8)) <;> simp
        replace HP := Aside0.mk HP'
        replace HR := Aside0.mk HR'
        clear HC hv HP' HR'
        go_wp2_with (first | (go_at_call 11; refine (gate_Put.calls k T0 a0 a1 a2 a3 T1 ⟨#[107]⟩ T2 ps false _ HP.out).mono ?_; rintro e w1 ⟨rfl, hb⟩; have BK1 := blk_below BK.out hb; replace HB := Aside0.mk (below_step HB.out hb); clear hb x0 x1 x2 x3 x4 x5 x6 x7 z0 z1 z2 z3 z4 z5 z6 z7 BK; obtain ⟨x0, x1, x2, x3, x4, x5, x6, x7, z0, z1, z2, z3, z4, z5, z6, z7⟩ := Ke8_ BK1; clear BK1) | (go_at_call 15; refine (gate_Right.calls T0 a0 a1 a2 a3 T1 ⟨#[107]⟩ T2 false _ HR.out).mono ?_; rintro e w2 ⟨rfl, hb⟩; replace HB := Aside0.mk (below_step HB.out hb); clear hb))
        go_ret
        exact ⟨rfl, HB.out⟩
      have p5 : decide (a2 ≤ 255) = true := decide_eq_true c5
      by_cases c6 : 0 ≤ a3
      rotate_left
      · have p6 : decide (0 ≤ a3) = false := decide_eq_false c6
        have hv : tenementlaw19_GateBounds.want a0 a1 a2 a3 n0 n1 n2 = false := by
          unfold tenementlaw19_GateBounds.want
          rw [decide_eq_true c0, decide_eq_true c1, decide_eq_true c2, decide_eq_true c3, decide_eq_true c4, decide_eq_true c5, decide_eq_false c6]
          rfl
        have HP' := HP.out
        have HR' := HR.out
        have HC' := HC.out
        rw [hv] at HP' HR' HC'
        have HC2 : (ps.toList == ([] : List UInt8)) = true := by
          revert HC'
          unfold bne
          cases (ps.toList == ([] : List UInt8)) <;> simp
        replace HP := Aside0.mk HP'
        replace HR := Aside0.mk HR'
        clear HC hv HP' HR'
        go_wp2_with (first | (go_at_call 11; refine (gate_Put.calls k T0 a0 a1 a2 a3 T1 ⟨#[107]⟩ T2 ps false _ HP.out).mono ?_; rintro e w1 ⟨rfl, hb⟩; have BK1 := blk_below BK.out hb; replace HB := Aside0.mk (below_step HB.out hb); clear hb x0 x1 x2 x3 x4 x5 x6 x7 z0 z1 z2 z3 z4 z5 z6 z7 BK; obtain ⟨x0, x1, x2, x3, x4, x5, x6, x7, z0, z1, z2, z3, z4, z5, z6, z7⟩ := Ke8_ BK1; clear BK1) | (go_at_call 15; refine (gate_Right.calls T0 a0 a1 a2 a3 T1 ⟨#[107]⟩ T2 false _ HR.out).mono ?_; rintro e w2 ⟨rfl, hb⟩; replace HB := Aside0.mk (below_step HB.out hb); clear hb))
        go_ret
        exact ⟨rfl, HB.out⟩
      have p6 : decide (0 ≤ a3) = true := decide_eq_true c6
      by_cases c7 : a3 ≤ 255
      rotate_left
      · have p7 : decide (a3 ≤ 255) = false := decide_eq_false c7
        have hv : tenementlaw19_GateBounds.want a0 a1 a2 a3 n0 n1 n2 = false := by
          unfold tenementlaw19_GateBounds.want
          rw [decide_eq_true c0, decide_eq_true c1, decide_eq_true c2, decide_eq_true c3, decide_eq_true c4, decide_eq_true c5, decide_eq_true c6, decide_eq_false c7]
          rfl
        have HP' := HP.out
        have HR' := HR.out
        have HC' := HC.out
        rw [hv] at HP' HR' HC'
        have HC2 : (ps.toList == ([] : List UInt8)) = true := by
          revert HC'
          unfold bne
          cases (ps.toList == ([] : List UInt8)) <;> simp
        replace HP := Aside0.mk HP'
        replace HR := Aside0.mk HR'
        clear HC hv HP' HR'
        go_wp2_with (first | (go_at_call 11; refine (gate_Put.calls k T0 a0 a1 a2 a3 T1 ⟨#[107]⟩ T2 ps false _ HP.out).mono ?_; rintro e w1 ⟨rfl, hb⟩; have BK1 := blk_below BK.out hb; replace HB := Aside0.mk (below_step HB.out hb); clear hb x0 x1 x2 x3 x4 x5 x6 x7 z0 z1 z2 z3 z4 z5 z6 z7 BK; obtain ⟨x0, x1, x2, x3, x4, x5, x6, x7, z0, z1, z2, z3, z4, z5, z6, z7⟩ := Ke8_ BK1; clear BK1) | (go_at_call 15; refine (gate_Right.calls T0 a0 a1 a2 a3 T1 ⟨#[107]⟩ T2 false _ HR.out).mono ?_; rintro e w2 ⟨rfl, hb⟩; replace HB := Aside0.mk (below_step HB.out hb); clear hb))
        go_ret
        exact ⟨rfl, HB.out⟩
      have p7 : decide (a3 ≤ 255) = true := decide_eq_true c7
      by_cases c8 : (n0 : Int) ≤ 128
      rotate_left
      · have p8 : decide ((n0 : Int) ≤ 128) = false := decide_eq_false c8
        have hv : tenementlaw19_GateBounds.want a0 a1 a2 a3 n0 n1 n2 = false := by
          unfold tenementlaw19_GateBounds.want
          rw [decide_eq_true c0, decide_eq_true c1, decide_eq_true c2, decide_eq_true c3, decide_eq_true c4, decide_eq_true c5, decide_eq_true c6, decide_eq_true c7, decide_eq_false c8]
          rfl
        have HP' := HP.out
        have HR' := HR.out
        have HC' := HC.out
        rw [hv] at HP' HR' HC'
        have HC2 : (ps.toList == ([] : List UInt8)) = true := by
          revert HC'
          unfold bne
          cases (ps.toList == ([] : List UInt8)) <;> simp
        replace HP := Aside0.mk HP'
        replace HR := Aside0.mk HR'
        clear HC hv HP' HR'
        go_wp2_with (first | (go_at_call 11; refine (gate_Put.calls k T0 a0 a1 a2 a3 T1 ⟨#[107]⟩ T2 ps false _ HP.out).mono ?_; rintro e w1 ⟨rfl, hb⟩; have BK1 := blk_below BK.out hb; replace HB := Aside0.mk (below_step HB.out hb); clear hb x0 x1 x2 x3 x4 x5 x6 x7 z0 z1 z2 z3 z4 z5 z6 z7 BK; obtain ⟨x0, x1, x2, x3, x4, x5, x6, x7, z0, z1, z2, z3, z4, z5, z6, z7⟩ := Ke8_ BK1; clear BK1) | (go_at_call 15; refine (gate_Right.calls T0 a0 a1 a2 a3 T1 ⟨#[107]⟩ T2 false _ HR.out).mono ?_; rintro e w2 ⟨rfl, hb⟩; replace HB := Aside0.mk (below_step HB.out hb); clear hb))
        go_ret
        exact ⟨rfl, HB.out⟩
      have p8 : decide ((n0 : Int) ≤ 128) = true := decide_eq_true c8
      by_cases c9 : (n1 : Int) ≤ 64
      rotate_left
      · have p9 : decide ((n1 : Int) ≤ 64) = false := decide_eq_false c9
        have hv : tenementlaw19_GateBounds.want a0 a1 a2 a3 n0 n1 n2 = false := by
          unfold tenementlaw19_GateBounds.want
          rw [decide_eq_true c0, decide_eq_true c1, decide_eq_true c2, decide_eq_true c3, decide_eq_true c4, decide_eq_true c5, decide_eq_true c6, decide_eq_true c7, decide_eq_true c8, decide_eq_false c9]
          rfl
        have HP' := HP.out
        have HR' := HR.out
        have HC' := HC.out
        rw [hv] at HP' HR' HC'
        have HC2 : (ps.toList == ([] : List UInt8)) = true := by
          revert HC'
          unfold bne
          cases (ps.toList == ([] : List UInt8)) <;> simp
        replace HP := Aside0.mk HP'
        replace HR := Aside0.mk HR'
        clear HC hv HP' HR'
        go_wp2_with (first | (go_at_call 11; refine (gate_Put.calls k T0 a0 a1 a2 a3 T1 ⟨#[107]⟩ T2 ps false _ HP.out).mono ?_; rintro e w1 ⟨rfl, hb⟩; have BK1 := blk_below BK.out hb; replace HB := Aside0.mk (below_step HB.out hb); clear hb x0 x1 x2 x3 x4 x5 x6 x7 z0 z1 z2 z3 z4 z5 z6 z7 BK; obtain ⟨x0, x1, x2, x3, x4, x5, x6, x7, z0, z1, z2, z3, z4, z5, z6, z7⟩ := Ke8_ BK1; clear BK1) | (go_at_call 15; refine (gate_Right.calls T0 a0 a1 a2 a3 T1 ⟨#[107]⟩ T2 false _ HR.out).mono ?_; rintro e w2 ⟨rfl, hb⟩; replace HB := Aside0.mk (below_step HB.out hb); clear hb))
        go_ret
        exact ⟨rfl, HB.out⟩
      have p9 : decide ((n1 : Int) ≤ 64) = true := decide_eq_true c9
      by_cases c10 : (n2 : Int) ≤ 64
      rotate_left
      · have p10 : decide ((n2 : Int) ≤ 64) = false := decide_eq_false c10
        have hv : tenementlaw19_GateBounds.want a0 a1 a2 a3 n0 n1 n2 = false := by
          unfold tenementlaw19_GateBounds.want
          rw [decide_eq_true c0, decide_eq_true c1, decide_eq_true c2, decide_eq_true c3, decide_eq_true c4, decide_eq_true c5, decide_eq_true c6, decide_eq_true c7, decide_eq_true c8, decide_eq_true c9, decide_eq_false c10]
          rfl
        have HP' := HP.out
        have HR' := HR.out
        have HC' := HC.out
        rw [hv] at HP' HR' HC'
        have HC2 : (ps.toList == ([] : List UInt8)) = true := by
          revert HC'
          unfold bne
          cases (ps.toList == ([] : List UInt8)) <;> simp
        replace HP := Aside0.mk HP'
        replace HR := Aside0.mk HR'
        clear HC hv HP' HR'
        go_wp2_with (first | (go_at_call 11; refine (gate_Put.calls k T0 a0 a1 a2 a3 T1 ⟨#[107]⟩ T2 ps false _ HP.out).mono ?_; rintro e w1 ⟨rfl, hb⟩; have BK1 := blk_below BK.out hb; replace HB := Aside0.mk (below_step HB.out hb); clear hb x0 x1 x2 x3 x4 x5 x6 x7 z0 z1 z2 z3 z4 z5 z6 z7 BK; obtain ⟨x0, x1, x2, x3, x4, x5, x6, x7, z0, z1, z2, z3, z4, z5, z6, z7⟩ := Ke8_ BK1; clear BK1) | (go_at_call 15; refine (gate_Right.calls T0 a0 a1 a2 a3 T1 ⟨#[107]⟩ T2 false _ HR.out).mono ?_; rintro e w2 ⟨rfl, hb⟩; replace HB := Aside0.mk (below_step HB.out hb); clear hb))
        go_ret
        exact ⟨rfl, HB.out⟩
      have p10 : decide ((n2 : Int) ≤ 64) = true := decide_eq_true c10
      have hv : tenementlaw19_GateBounds.want a0 a1 a2 a3 n0 n1 n2 = true := by
        unfold tenementlaw19_GateBounds.want
        rw [decide_eq_true c0, decide_eq_true c1, decide_eq_true c2, decide_eq_true c3, decide_eq_true c4, decide_eq_true c5, decide_eq_true c6, decide_eq_true c7, decide_eq_true c8, decide_eq_true c9, decide_eq_true c10]
        rfl
      have HP' := HP.out
      have HR' := HR.out
      have HC' := HC.out
      rw [hv] at HP' HR' HC'
      have HC2 : (ps.toList == ([] : List UInt8)) = false := by
        revert HC'
        unfold bne
        cases (ps.toList == ([] : List UInt8)) <;> simp
      replace HP := Aside0.mk HP'
      replace HR := Aside0.mk HR'
      clear HC hv HP' HR'
      go_wp2_with (first | (go_at_call 11; refine (gate_Put.calls k T0 a0 a1 a2 a3 T1 ⟨#[107]⟩ T2 ps true _ HP.out).mono ?_; rintro e w1 ⟨rfl, hb⟩; have BK1 := blk_below BK.out hb; replace HB := Aside0.mk (below_step HB.out hb); clear hb x0 x1 x2 x3 x4 x5 x6 x7 z0 z1 z2 z3 z4 z5 z6 z7 BK; obtain ⟨x0, x1, x2, x3, x4, x5, x6, x7, z0, z1, z2, z3, z4, z5, z6, z7⟩ := Ke8_ BK1; clear BK1) | (go_at_call 15; refine (gate_Right.calls T0 a0 a1 a2 a3 T1 ⟨#[107]⟩ T2 true _ HR.out).mono ?_; rintro e w2 ⟨rfl, hb⟩; replace HB := Aside0.mk (below_step HB.out hb); clear hb))
      go_ret
      exact ⟨rfl, HB.out⟩

def tenementlaw19_GateBounds.Pure : Prop := ∀ (a0 : Int) (a1 : Int) (a2 : Int) (a3 : Int) (a4 : Int) (a5 : Int), (Lit.int .i16 a0).wf = true → (Lit.int .i16 a1).wf = true → (Lit.int .i16 a2).wf = true → (Lit.int .i16 a3).wf = true → (Lit.int .u8 a4).wf = true → (Lit.int .u8 a5).wf = true → ∃ k, tenementlaw19_GateBounds.f k a0 a1 a2 a3 a4 a5 = some true
theorem tenementlaw19_GateBounds.walk (P : tenementlaw19_GateBounds.Pure) (a0 : Int) (a1 : Int) (a2 : Int) (a3 : Int) (a4 : Int) (a5 : Int) (w : World) (w0 : (Lit.int .i16 a0).wf = true) (w1 : (Lit.int .i16 a1).wf = true) (w2 : (Lit.int .i16 a2).wf = true) (w3 : (Lit.int .i16 a3).wf = true) (w4 : (Lit.int .u8 a4).wf = true) (w5 : (Lit.int .u8 a5).wf = true) :
    Calls Try.prog 7 #[.int .i16 a0, .int .i16 a1, .int .i16 a2, .int .i16 a3, .int .u8 a4, .int .u8 a5] w fun e w' => e = .returned (.bool true) ∧ Below w.heap.size w w' := by
  obtain ⟨k, h⟩ := P a0 a1 a2 a3 a4 a5 w0 w1 w2 w3 w4 w5
  refine (tenementlaw19_GateBounds.calls k a0 a1 a2 a3 a4 a5 true w h).mono ?_
  rintro e w' ⟨rfl, hd⟩
  exact ⟨rfl, hd⟩
end Go.Proofs.Ytplgbkobpanbfaa.Q
