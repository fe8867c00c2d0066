-- Written by this session's own driver (wip/hybrid.py) of the kit's printer; contracts marked FOREIGN are by hand.
import Derived.Test.YtlngbigddbklpaaQx0
import Derived.Test.YtlngbigddbklpaaQx1
namespace Go.Proofs.Ytlngbigddbklpaa.Q
open Go.RowKit Go.Proofs.YtlngbigddbklpaaW.PrintWords Go.Proofs.YtlngbigddbklpaaW.PrintLast Go.Proofs.YtlngbigddbklpaaW.PrintMore
attribute [local go_sem] max2_int min2_int max_two min_two max_three min_three max_four min_four   -- for this text's walks alone
set_option linter.unusedVariables false
set_option linter.unusedSimpArgs false

/-! ### crc_Sum: function 9 -/
-- FOREIGN: ranges over []byte(s)
def crc_Sum.fold (k : Nat) (s : ByteArray) : Nat → Option (Int)
  | 0 => some 4294967295
  | i + 1 => (crc_Sum.fold k s i).bind fun c => crc_next.f k c (bt s (i : Int))
def crc_Sum.f (k : Nat) (a0 : ByteArray) : Option (Int) :=
  if a0.size ≤ 9223372036854775807 then (crc_Sum.fold k a0 a0.size).bind fun c => some (Go.bits .xor .u32 4294967295 c) else none
theorem crc_Sum.mono_fold (s : ByteArray) (k : Nat) : ∀ n, LeO (crc_Sum.fold k s n) (crc_Sum.fold (k + 1) s n)
  | 0 => LeO.refl _
  | n + 1 => LeO.bind (crc_Sum.mono_fold s k n) (fun c => crc_next.mono _ _ _)
theorem crc_Sum.mono : ∀ a0 k, LeO (crc_Sum.f k a0) (crc_Sum.f (k + 1) a0) := by
  intro a0 k
  unfold crc_Sum.f
  exact LeO.ite (LeO.bind (crc_Sum.mono_fold _ _ _) (fun _ => LeO.refl _)) (LeO.none _)
theorem crc_Sum.fold_some {k : Nat} {s : ByteArray} : ∀ {n : Nat} {c : Int}, crc_Sum.fold k s n = some c → ∀ i, i ≤ n → ∃ d, crc_Sum.fold k s i = some d
  | 0, c, h, i, hi => by obtain rfl : i = 0 := by omega
                         exact ⟨c, h⟩
  | n + 1, c, h, i, hi => by
    by_cases e : i = n + 1
    · subst e; exact ⟨c, h⟩
    · obtain ⟨d, hd, _⟩ := Option.bind_eq_some_iff.1 h
      exact crc_Sum.fold_some hd i (by omega)
set_option maxHeartbeats 1000000 in
theorem crc_Sum.calls (k : Nat) (a0 : ByteArray) (r : Int) (w : World) (h : crc_Sum.f k a0 = some r) :
    Calls Try.prog 9 #[.string a0] w fun e w' => e = .returned (.int .u32 r) ∧ Below w.heap.size w w' := by
  unfold crc_Sum.f at h
  by_cases hm : a0.size ≤ 9223372036854775807
  · rw [if_pos hm] at h
    obtain ⟨c, hc0, hr0⟩ := Option.bind_eq_some_iff.1 h
    obtain rfl := Option.some.inj hr0
    have HC := Aside0.mk hc0
    clear h hr0 hc0
    have hcv := fun W t => Lib.run_convert_string_bytes (P := Try.prog) W 9 30 5 t Try.underlying9 Try.underlying30 Try.underlying5
    go_enter Try.func9, Try.ntmps9
    go_wp2
    obtain ⟨W, hW⟩ : ∃ W, W = Lib.bytesWorld w 5 a0 := ⟨_, rfl⟩
    have HB := Aside0.mk (show Below w.heap.size w W by rw [hW]; exact bytes_below (Below.refl _ _) (Nat.le_refl _) _ _)
    have HE := Aside0.mk (show ∀ j : Nat, j < a0.size → W.cell? ⟨w.heap.size, j, none⟩ = some (.int .u8 (bt a0 j)) by
      intro j hj
      obtain ⟨_, _, hr⟩ := bytes_reads w 5 a0 hm
      rw [← hW] at hr
      obtain ⟨ad, had, hr⟩ := hr (by omega)
      have hr := hr j hj
      simp at had
      subst had
      rw [add_plain] at hr
      rw [hr]
      have e1 : (bytesOf a0).getD j 0 = bt a0 j := rd_bytesOf a0 j
      rw [e1])
    have HS := Aside0.mk (show w.heap.size < W.heap.size by rw [hW, Lib.bytesWorld_size]; omega)
    rw [← hW]
    clear hW hcv
    go_loopw [9, 3] (fun i v wr => ∃ (j : Nat) (d : Int), j ≤ a0.size ∧ i = .int .i64 j ∧ v = .int .u32 d ∧ Aside0 (crc_Sum.fold k a0 j = some d) ∧ Aside0 (Below W.heap.size W wr)) (fun i _ _ => a0.size - (intOf i).toNat)
    case atStart => exact ⟨0, _, Nat.zero_le _, rfl, rfl, ⟨rfl⟩, ⟨Below.refl _ _⟩⟩
    case round =>
      obtain ⟨j, d, hj, rfl, rfl, HD, HW⟩ := hrel
      by_cases hlt : j < a0.size
      · obtain ⟨d', hd'⟩ := crc_Sum.fold_some HC.out (j + 1) hlt
        have hn : crc_next.f k d (bt a0 j) = some d' := by
          have := hd'
          simp only [crc_Sum.fold] at this
          rw [HD.out] at this
          exact this
        have HN := Aside0.mk hn
        have HD' := Aside0.mk hd'
        clear hn hd'
        have hcell := (HW.out.cell (p := ⟨w.heap.size, j, none⟩) HS.out).trans (HE.out j hlt)
        go_wp2_with (go_at_call 14; refine (crc_next.calls k d (bt a0 j) d' _ HN.out).mono ?_; rintro e w1 ⟨rfl, hb1⟩; have HW1 := Aside0.mk (HW.out.trans (hb1.below.mono HW.out.size)); clear hb1)
        go_roundw
        case rel => exact ⟨j + 1, d', by omega, by go_num, rfl, HD', HW1⟩
        case measure => simp [intOf]; omega
      · obtain rfl : j = a0.size := by omega
        obtain rfl : d = c := Option.some.inj (HD.out.symm.trans HC.out)
        go_wp2
        go_ret
        exact ⟨rfl, HB.out.trans (HW.out.mono (Nat.le_of_lt HS.out))⟩
  · rw [if_neg hm] at h
    exact absurd h (by simp)


end Go.Proofs.Ytlngbigddbklpaa.Q
