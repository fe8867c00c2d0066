-- Written by this session's own driver (wip/hybrid.py) of the kit's printer; contracts marked FOREIGN are by hand.
import Derived.Test.YtlngbigddbklpaaQx0
import Derived.Test.YtlngbigddbklpaaQx2
import Derived.Test.YtlngbigddbklpaaQx3
import Derived.Test.YtlngbigddbklpaaQx5
namespace Go.Proofs.Ytlngbigddbklpaa.Q
open Go.RowKit Go.Proofs.YtlngbigddbklpaaW.PrintWords Go.Proofs.YtlngbigddbklpaaW.PrintLast Go.Proofs.YtlngbigddbklpaaW.PrintMore
attribute [local go_sem] max2_int min2_int max_two min_two max_three min_three max_four min_four   -- for this text's walks alone
set_option linter.unusedVariables false
set_option linter.unusedSimpArgs false

/-! ### tenementlaw01_CrcBursts: function 5 -/
-- FOREIGN: a conversion's row that is written
def digits8 : ByteArray := ⟨#[49, 50, 51, 52, 53, 54, 55, 56]⟩
def tenementlaw01_CrcBursts.turn (l : List Int) (p : Nat) (x : Int) : List Int := l.set p (Go.bits .xor .u8 (l.getD p 0) x)
def tenementlaw01_CrcBursts.burst (l : List Int) (p : Nat) (b : Int) : List Int := tenementlaw01_CrcBursts.turn (tenementlaw01_CrcBursts.turn (tenementlaw01_CrcBursts.turn (tenementlaw01_CrcBursts.turn l p (b % 256)) (p + 1) (b / 256 % 256)) (p + 2) (b / 65536 % 256)) (p + 3) (b / 16777216 % 256)
def tenementlaw01_CrcBursts.place (s : ByteArray) (a : Int) : Nat := (a % ((s.size : Int) + 4)).toNat
def tenementlaw01_CrcBursts.bent (s : ByteArray) (a b : Int) : ByteArray := strOfNums (tenementlaw01_CrcBursts.burst (bytesOf (s ++ digits8)) (tenementlaw01_CrcBursts.place s a) b)
def tenementlaw01_CrcBursts.f (k : Nat) (a0 : ByteArray) (a1 : Int) (a2 : Int) : Option (Bool) :=
  if a0.size ≤ 140737488351232 ∧ 0 ≤ a1 ∧ a1 ≤ 65535 then
    (tenementlaw01_examples.f k).bind fun h => if h = true then (crc_Sum.f k (a0 ++ digits8)).bind fun t => (crc_Sum.f k (tenementlaw01_CrcBursts.bent a0 a1 a2)).bind fun u => (crc_Check.f k (tenementlaw01_CrcBursts.bent a0 a1 a2) t).bind fun v =>
      if ((u == t) == (a2 == 0)) = true then (if (v == (a2 == 0)) = true then some true else none) else none
    else none
  else none
/-- A row that reads as numbers, and may be written. -/
def tenementlaw01_CrcBursts.At (W : World) (B : Nat) (l : List Int) : Prop := ∀ j, j < l.length → W.cell? ⟨B, j, none⟩ = some (.int .u8 (l.getD j 0)) ∧ W.frozen? ⟨B, j, none⟩ = false
theorem tenementlaw01_CrcBursts.At.set {W : World} {B : Nat} {l : List Int} (h : tenementlaw01_CrcBursts.At W B l) (p : Nat) (hp : p < l.length) (v : Int) : tenementlaw01_CrcBursts.At (W.setCell ⟨B, p, none⟩ (.int .u8 v)) B (l.set p v) := by
  intro j hj
  rw [List.length_set] at hj
  obtain ⟨h1, h2⟩ := h j hj
  obtain ⟨g1, g2⟩ := h p hp
  by_cases e : j = p
  · subst e
    refine ⟨?_, ?_⟩
    · rw [World.cell?_setCell_same _ _ _ g1]; simp [List.getD_eq_getElem?_getD, hj]
    · simp [go_sem, h2]
  · refine ⟨?_, ?_⟩
    · rw [World.cell?_setCell_other _ _ _ _ (by intro h; injection h with _ h; exact e h.symm), h1]
      simp [List.getD_eq_getElem?_getD, Ne.symm e]
    · simp [go_sem, h2]
theorem tenementlaw01_CrcBursts.At.below {W W' : World} {B : Nat} {l : List Int} (h : tenementlaw01_CrcBursts.At W B l) (hb : Below W.heap.size W W') (hB : B < W.heap.size) : tenementlaw01_CrcBursts.At W' B l := fun j hj =>
  ⟨(hb.cell (p := ⟨B, j, none⟩) hB).trans (h j hj).1, (hb.frozen (p := ⟨B, j, none⟩) hB).trans (h j hj).2⟩
theorem tenementlaw01_CrcBursts.At.conv {W : World} {B : Nat} {l : List Int} (h : tenementlaw01_CrcBursts.At W B l) (n c : Nat) (hn : l.length = n) :
    (convert 30 9 (.slice (some ⟨B, 0, none⟩) n c)).run Try.prog W = .ok (.string (strOfNums l)) W :=
  run_convert_bytes_arg W 30 5 Try.underlying30 Try.underlying5 B 0 n c l hn (fun i hi => by rw [Nat.zero_add]; exact (h i (by omega)).1) 9 Try.underlying9
theorem tenementlaw01_CrcBursts.str_bytes (s : ByteArray) : strOfNums (bytesOf s) = s := by
  cases s with
  | mk d =>
  unfold strOfNums bytesOf
  simp only [List.map_map]
  congr 1
  apply Array.toList_inj.1
  simp only [List.toList_toArray]
  conv => rhs; rw [← List.map_id d.toList]
  apply List.map_congr_left
  intro b _
  simp
theorem tenementlaw01_CrcBursts.made (w : World) (s : ByteArray) (hs : s.size ≤ 9223372036854775807) : ∃ (W : World) (c : Nat), (convert 9 30 (.string s)).run Try.prog w = .ok (.slice (some ⟨w.heap.size, 0, none⟩) s.size c) W ∧
    (convert 30 9 (.slice (some ⟨w.heap.size, 0, none⟩) s.size c)).run Try.prog W = .ok (.string s) W ∧ Aside0 (tenementlaw01_CrcBursts.At W w.heap.size (bytesOf s)) ∧ Aside0 (Below w.heap.size w W) ∧ Aside0 (W.heap.size = w.heap.size + 1) := by
  have hat : tenementlaw01_CrcBursts.At (Lib.bytesWorld w 5 s) w.heap.size (bytesOf s) := by
    intro j hj
    rw [bytesOf_length] at hj
    refine ⟨?_, ?_⟩
    · obtain ⟨_, _, hr⟩ := bytes_reads w 5 s hs
      obtain ⟨ad, had, hr⟩ := hr (by omega)
      have hr := hr j hj
      simp at had
      subst had
      rw [add_plain] at hr
      exact hr
    · have hsz : (Lib.bytesCells w 5 s).size = s.size + (grownCap w s.size 0 5 - s.size) := by
        unfold Lib.bytesCells; simp
      simp only [World.frozen?, Lib.bytesWorld_at_new]
      simp; omega
  refine ⟨_, _, Lib.run_convert_string_bytes (P := Try.prog) w 9 30 5 s Try.underlying9 Try.underlying30 Try.underlying5, ?_, ⟨hat⟩, ⟨bytes_below (Below.refl _ _) (Nat.le_refl _) _ _⟩, ⟨Lib.bytesWorld_size _ _ _⟩⟩
  have := hat.conv s.size (grownCap w s.size 0 5) (bytesOf_length s)
  rw [tenementlaw01_CrcBursts.str_bytes] at this
  exact this
theorem tenementlaw01_CrcBursts.At.drew {W : World} {B : Nat} {l : List Int} (h : tenementlaw01_CrcBursts.At W B l) : tenementlaw01_CrcBursts.At W.drew B l := fun j hj => ⟨by simpa [go_sem] using (h j hj).1, by simpa [go_sem] using (h j hj).2⟩
theorem tenementlaw01_CrcBursts.round {w0 w W : World} {B p n : Nat} {l : List Int} {x : Int} (hW : W = (w.setCell ⟨B, p, none⟩ (.int .u8 (Go.bits .xor .u8 (l[p]?.getD 0) x))).drew) (hn : l.length = n) (hp : p < n) (hB : w0.heap.size ≤ B) (h : tenementlaw01_CrcBursts.At w B l) (hb : Below w0.heap.size w0 w) :
    tenementlaw01_CrcBursts.At W B (tenementlaw01_CrcBursts.turn l p x) ∧ (tenementlaw01_CrcBursts.turn l p x).length = n ∧ Below w0.heap.size w0 W ∧ W.heap.size = w.heap.size := by
  subst hW
  refine ⟨?_, ?_, ?_, ?_⟩
  · unfold tenementlaw01_CrcBursts.turn
    rw [List.getD_eq_getElem?_getD]
    exact (h.set p (by omega) _).drew
  · unfold tenementlaw01_CrcBursts.turn; rw [List.length_set]; exact hn
  · exact below_drew (hb.setCell hB _)
  · simp
set_option maxHeartbeats 4000000 in
theorem tenementlaw01_CrcBursts.calls (k : Nat) (a0 : ByteArray) (a1 : Int) (a2 : Int) (r : Bool) (w : World) (h : tenementlaw01_CrcBursts.f k a0 a1 a2 = some r) :
    Calls Try.prog 5 #[.string a0, .int .u16 a1, .int .u32 a2] w fun e w' => e = .returned (.bool r) ∧ Below w.heap.size w w' := by
  unfold tenementlaw01_CrcBursts.f at h
  by_cases hm : a0.size ≤ 140737488351232 ∧ 0 ≤ a1 ∧ a1 ≤ 65535
  · rw [if_pos hm] at h
    obtain ⟨hz, h0, h1⟩ := hm
    obtain ⟨hd, A1, h⟩ := Option.bind_eq_some_iff.1 h
    cases hd with
    | false => exact absurd h (by simp)
    | true =>
    rw [if_pos rfl] at h
    obtain ⟨t, A2, h⟩ := Option.bind_eq_some_iff.1 h
    obtain ⟨u, A3, h⟩ := Option.bind_eq_some_iff.1 h
    obtain ⟨v, A4, h⟩ := Option.bind_eq_some_iff.1 h
    have A1 := Aside0.mk A1
    have A2 := Aside0.mk A2
    have A3 := Aside0.mk A3
    have A4 := Aside0.mk A4
    have H := Aside0.mk h
    clear h
    have z8 : digits8.size = 8 := rfl
    have zs : (a0 ++ digits8).size = a0.size + 8 := by rw [ByteArray.size_append, z8]
    have hlim : a0.size + 8 ≤ 9223372036854775807 := by omega
    have Z8 := Aside0.mk z8
    have ZS := Aside0.mk zs
    clear z8 zs
    go_enter Try.func5, Try.ntmps5
    go_wp2_with (first | (go_at_call 7; refine (tenementlaw01_examples.calls k true _ A1.out).mono ?_; rintro e w1 ⟨rfl, hb1⟩; obtain ⟨W, c, hcv, hcv2, HA, HB, HZ⟩ := tenementlaw01_CrcBursts.made w1 (a0 ++ digits8) (by rw [ZS.out]; omega); rw [ZS.out] at hcv hcv2; unfold digits8 at hcv hcv2; have HB1 := Aside0.mk hb1; clear hb1) | (go_at_call 9; refine (crc_Sum.calls k _ t _ A2.out).mono ?_; rintro e w2 ⟨rfl, hb2⟩; have HB2 := Aside0.mk hb2; clear hb2))
    have hlen : (bytesOf (a0 ++ digits8)).length = a0.size + 8 := by rw [bytesOf_length, ZS.out]
    obtain ⟨p, hp, hp4⟩ : ∃ p : Nat, a1 % ((a0.size : Int) + 8 - 4) = (p : Int) ∧ p < a0.size + 4 := by
      have e1 := Int.emod_nonneg a1 (show (a0.size : Int) + 8 - 4 ≠ 0 by omega)
      have e2 := Int.emod_lt_of_pos a1 (show 0 < (a0.size : Int) + 8 - 4 by omega)
      exact ⟨(a1 % ((a0.size : Int) + 8 - 4)).toNat, by omega, by omega⟩
    have HP := Aside0.mk (show tenementlaw01_CrcBursts.place a0 a1 = p by unfold tenementlaw01_CrcBursts.place; rw [show (a0.size : Int) + 4 = (a0.size : Int) + 8 - 4 by omega, hp]; omega)
    rw [hp]
    clear hp
    obtain ⟨l, hl⟩ : ∃ l, l = bytesOf (a0 ++ digits8) := ⟨_, rfl⟩
    rw [← hl] at hlen HA
    have HL := Aside0.mk hl
    clear hl
    have g0 := HA.out.below HB2.out (by rw [HZ.out]; omega)
    have HG := Aside0.mk g0
    clear g0
    have HLen := Aside0.mk hlen
    have HBW := Aside0.mk ((HB1.out.trans (HB.out.mono HB1.out.size)).trans (HB2.out.mono (by rw [HZ.out]; have := HB1.out.size; omega)))
    clear hlen
    have HS0 := Aside0.mk (show w1.heap.size < w2.heap.size by have := HB2.out.size; have := HZ.out; omega)
    refine wp_loop_rounds 5 ?_
    rw [rounds_succ]
    have hc0 := (HG.out p (by rw [HLen.out]; omega)).1
    have hf0 := (HG.out p (by rw [HLen.out]; omega)).2
    go_wp2
    go_region
    go_wp2
    obtain ⟨W3, hW⟩ : ∃ W', W' = (w2.setCell ⟨w1.heap.size, p, none⟩ (.int .u8 (Go.bits .xor .u8 (l[p]?.getD 0) (a2 % 256)))).drew := ⟨_, rfl⟩
    rw [← hW]
    obtain ⟨r1, r2, r3, r4⟩ := tenementlaw01_CrcBursts.round hW HLen.out (by omega) HB1.out.size HG.out HBW.out
    obtain ⟨l1, he0⟩ : ∃ l', l' = tenementlaw01_CrcBursts.turn l p (a2 % 256) := ⟨_, rfl⟩
    rw [← he0] at r1 r2
    have HG1 := Aside0.mk r1
    have HLen1 := Aside0.mk r2
    have HBW1 := Aside0.mk r3
    have HS1 := Aside0.mk (Nat.lt_of_lt_of_eq HS0.out r4.symm)
    have HE1 := Aside0.mk he0
    clear r1 r2 r3 r4 hW hc0 hf0 he0
    rw [rounds_succ]
    have hc1 := (HG1.out (p + 1) (by rw [HLen1.out]; omega)).1
    have hf1 := (HG1.out (p + 1) (by rw [HLen1.out]; omega)).2
    go_wp2
    go_region
    go_wp2
    obtain ⟨W4, hW⟩ : ∃ W', W' = (W3.setCell ⟨w1.heap.size, p + 1, none⟩ (.int .u8 (Go.bits .xor .u8 (l1[p + 1]?.getD 0) (a2 / 256 % 256)))).drew := ⟨_, rfl⟩
    rw [← hW]
    obtain ⟨r1, r2, r3, r4⟩ := tenementlaw01_CrcBursts.round hW HLen1.out (by omega) HB1.out.size HG1.out HBW1.out
    obtain ⟨l2, he1⟩ : ∃ l', l' = tenementlaw01_CrcBursts.turn l1 (p + 1) (a2 / 256 % 256) := ⟨_, rfl⟩
    rw [← he1] at r1 r2
    have HG2 := Aside0.mk r1
    have HLen2 := Aside0.mk r2
    have HBW2 := Aside0.mk r3
    have HS2 := Aside0.mk (Nat.lt_of_lt_of_eq HS1.out r4.symm)
    have HE2 := Aside0.mk he1
    clear r1 r2 r3 r4 hW hc1 hf1 he1
    rw [rounds_succ]
    have hc2 := (HG2.out (p + 2) (by rw [HLen2.out]; omega)).1
    have hf2 := (HG2.out (p + 2) (by rw [HLen2.out]; omega)).2
    go_wp2
    go_region
    go_wp2
    obtain ⟨W5, hW⟩ : ∃ W', W' = (W4.setCell ⟨w1.heap.size, p + 2, none⟩ (.int .u8 (Go.bits .xor .u8 (l2[p + 2]?.getD 0) (a2 / 65536 % 256)))).drew := ⟨_, rfl⟩
    rw [← hW]
    obtain ⟨r1, r2, r3, r4⟩ := tenementlaw01_CrcBursts.round hW HLen2.out (by omega) HB1.out.size HG2.out HBW2.out
    obtain ⟨l3, he2⟩ : ∃ l', l' = tenementlaw01_CrcBursts.turn l2 (p + 2) (a2 / 65536 % 256) := ⟨_, rfl⟩
    rw [← he2] at r1 r2
    have HG3 := Aside0.mk r1
    have HLen3 := Aside0.mk r2
    have HBW3 := Aside0.mk r3
    have HS3 := Aside0.mk (Nat.lt_of_lt_of_eq HS2.out r4.symm)
    have HE3 := Aside0.mk he2
    clear r1 r2 r3 r4 hW hc2 hf2 he2
    rw [rounds_succ]
    have hc3 := (HG3.out (p + 3) (by rw [HLen3.out]; omega)).1
    have hf3 := (HG3.out (p + 3) (by rw [HLen3.out]; omega)).2
    go_wp2
    go_region
    go_wp2
    obtain ⟨W6, hW⟩ : ∃ W', W' = (W5.setCell ⟨w1.heap.size, p + 3, none⟩ (.int .u8 (Go.bits .xor .u8 (l3[p + 3]?.getD 0) (a2 / 16777216 % 256)))).drew := ⟨_, rfl⟩
    rw [← hW]
    obtain ⟨r1, r2, r3, r4⟩ := tenementlaw01_CrcBursts.round hW HLen3.out (by omega) HB1.out.size HG3.out HBW3.out
    obtain ⟨l4, he3⟩ : ∃ l', l' = tenementlaw01_CrcBursts.turn l3 (p + 3) (a2 / 16777216 % 256) := ⟨_, rfl⟩
    rw [← he3] at r1 r2
    have HG4 := Aside0.mk r1
    have HLen4 := Aside0.mk r2
    have HBW4 := Aside0.mk r3
    have HS4 := Aside0.mk (Nat.lt_of_lt_of_eq HS3.out r4.symm)
    have HE4 := Aside0.mk he3
    clear r1 r2 r3 r4 hW hc3 hf3 he3
    rw [rounds_succ]
    have hcv3 := HG4.out.conv _ c HLen4.out
    have HN := Aside0.mk (show strOfNums l4 = tenementlaw01_CrcBursts.bent a0 a1 a2 by
      unfold tenementlaw01_CrcBursts.bent tenementlaw01_CrcBursts.burst
      rw [HP.out, ← HL.out, ← HE1.out, ← HE2.out, ← HE3.out, ← HE4.out])
    have A3' := Aside0.mk (show crc_Sum.f k (strOfNums l4) = some u by rw [HN.out]; exact A3.out)
    have A4' := Aside0.mk (show crc_Check.f k (strOfNums l4) t = some v by rw [HN.out]; exact A4.out)
    have hfin : (u == t) = (a2 == 0) ∧ v = (a2 == 0) ∧ r = true := by
      have := H.out
      split at this
      · rename_i q1
        split at this
        · rename_i q2
          exact ⟨by simpa using q1, by simpa using q2, (Option.some.inj this).symm⟩
        · exact absurd this (by simp)
      · exact absurd this (by simp)
    obtain ⟨q1, rfl, rfl⟩ := hfin
    obtain ⟨q, hq⟩ : ∃ q, q = (a2 == 0) := ⟨_, rfl⟩
    rw [← hq] at q1 A4'
    have q2 := hq.symm
    clear hq H
    have hBW := HBW4.out
    have HF := Aside0.mk hBW
    clear hBW
    cases q with
    | true =>
      go_wp2_with (first | (go_at_call 9; refine (crc_Sum.calls k _ u _ A3'.out).mono ?_; rintro e w5 ⟨rfl, hb5⟩; have HB5 := Aside0.mk hb5; have hcv4 := (HG4.out.below hb5 HS4.out).conv _ c HLen4.out; clear hb5) | (go_at_call 10; refine (crc_Check.calls k _ t true _ A4'.out).mono ?_; rintro e w6 ⟨rfl, hb6⟩; have HB6 := Aside0.mk hb6; clear hb6))
      go_ret
      exact ⟨rfl, HF.out.trans ((HB5.out.mono HF.out.size).trans (HB6.out.mono (Nat.le_trans HF.out.size HB5.out.size)))⟩
    | false =>
      go_wp2_with (first | (go_at_call 9; refine (crc_Sum.calls k _ u _ A3'.out).mono ?_; rintro e w5 ⟨rfl, hb5⟩; have HB5 := Aside0.mk hb5; have hcv4 := (HG4.out.below hb5 HS4.out).conv _ c HLen4.out; clear hb5) | (go_at_call 10; refine (crc_Check.calls k _ t false _ A4'.out).mono ?_; rintro e w6 ⟨rfl, hb6⟩; have HB6 := Aside0.mk hb6; clear hb6))
      go_ret
      exact ⟨rfl, HF.out.trans ((HB5.out.mono HF.out.size).trans (HB6.out.mono (Nat.le_trans HF.out.size HB5.out.size)))⟩
  · rw [if_neg hm] at h
    exact absurd h (by simp)

def tenementlaw01_CrcBursts.Pure : Prop := ∀ (a0 : ByteArray) (a1 : Int) (a2 : Int), a0.size ≤ 140737488351232 → (Lit.int .u16 a1).wf = true → (Lit.int .u32 a2).wf = true → ∃ k, tenementlaw01_CrcBursts.f k a0 a1 a2 = some true
theorem tenementlaw01_CrcBursts.walk (P : tenementlaw01_CrcBursts.Pure) (a0 : ByteArray) (a1 : Int) (a2 : Int) (w : World) (w0 : a0.size ≤ 140737488351232) (w1 : (Lit.int .u16 a1).wf = true) (w2 : (Lit.int .u32 a2).wf = true) :
    Calls Try.prog 5 #[.string a0, .int .u16 a1, .int .u32 a2] w fun e w' => e = .returned (.bool true) ∧ Below w.heap.size w w' := by
  obtain ⟨k, h⟩ := P a0 a1 a2 w0 w1 w2
  refine (tenementlaw01_CrcBursts.calls k a0 a1 a2 true w h).mono ?_
  rintro e w' ⟨rfl, hd⟩
  exact ⟨rfl, hd⟩

end Go.Proofs.Ytlngbigddbklpaa.Q
