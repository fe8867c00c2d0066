-- Written by this session's own driver (wip/hybrid.py) of the kit's printer; contracts marked FOREIGN are by hand.
import Derived.Test.YtakhahfegialfaaDoorQx0
namespace Go.Proofs.YtakhahfegialfaaDoor.Q
open Go.RowKit Go.Proofs.YtakhahfegialfaaDoorW.PrintWords Go.Proofs.YtakhahfegialfaaDoorW.PrintLast Go.Proofs.YtakhahfegialfaaDoorW.PrintMore
attribute [local go_sem] max2_int min2_int max_two min_two max_three min_three max_four min_four   -- for this text's walks alone
set_option linter.unusedVariables false
set_option linter.unusedSimpArgs false

/-! ### tenementlaw06_bend: function 32 -/
-- FOREIGN: a conversion's row that is written
def tenementlaw06_bend.turn (l : List Int) (p : Nat) (x : Int) : List Int := l.set p (Go.bits .xor .u8 (l.getD p 0) x)
/-- A row that reads as numbers, and may be written. -/
def tenementlaw06_bend.At (W : World) (B : Nat) (l : List Int) : Prop := ∀ j, j < l.length → W.cell? ⟨B, j, none⟩ = some (.int .u8 (l.getD j 0)) ∧ W.frozen? ⟨B, j, none⟩ = false
theorem tenementlaw06_bend.At.set {W : World} {B : Nat} {l : List Int} (h : tenementlaw06_bend.At W B l) (p : Nat) (hp : p < l.length) (v : Int) : tenementlaw06_bend.At (W.setCell ⟨B, p, none⟩ (.int .u8 v)) B (l.set p v) := by
  intro j hj
  rw [List.length_set] at hj
  obtain ⟨h1, h2⟩ := h j hj
  obtain ⟨g1, g2⟩ := h p hp
  by_cases e : j = p
  · subst e
    refine ⟨?_, ?_⟩
    · rw [World.cell?_setCell_same _ _ _ g1]; simp [List.getD_eq_getElem?_getD, hj]
    · simp [go_sem, h2]
  · refine ⟨?_, ?_⟩
    · rw [World.cell?_setCell_other _ _ _ _ (by intro h; injection h with _ h; exact e h.symm), h1]
      simp [List.getD_eq_getElem?_getD, Ne.symm e]
    · simp [go_sem, h2]
theorem tenementlaw06_bend.At.below {W W' : World} {B : Nat} {l : List Int} (h : tenementlaw06_bend.At W B l) (hb : Below W.heap.size W W') (hB : B < W.heap.size) : tenementlaw06_bend.At W' B l := fun j hj =>
  ⟨(hb.cell (p := ⟨B, j, none⟩) hB).trans (h j hj).1, (hb.frozen (p := ⟨B, j, none⟩) hB).trans (h j hj).2⟩
theorem tenementlaw06_bend.At.conv {W : World} {B : Nat} {l : List Int} (h : tenementlaw06_bend.At W B l) (n c : Nat) (hn : l.length = n) :
    (convert 70 9 (.slice (some ⟨B, 0, none⟩) n c)).run Tryd.prog W = .ok (.string (strOfNums l)) W :=
  run_convert_bytes_arg W 70 5 Tryd.underlying70 Tryd.underlying5 B 0 n c l hn (fun i hi => by rw [Nat.zero_add]; exact (h i (by omega)).1) 9 Tryd.underlying9
theorem tenementlaw06_bend.str_bytes (s : ByteArray) : strOfNums (bytesOf s) = s := by
  cases s with
  | mk d =>
  unfold strOfNums bytesOf
  simp only [List.map_map]
  congr 1
  apply Array.toList_inj.1
  simp only [List.toList_toArray]
  conv => rhs; rw [← List.map_id d.toList]
  apply List.map_congr_left
  intro b _
  simp
theorem tenementlaw06_bend.made (w : World) (s : ByteArray) (hs : s.size ≤ 9223372036854775807) : ∃ (W : World) (c : Nat), (convert 9 70 (.string s)).run Tryd.prog w = .ok (.slice (some ⟨w.heap.size, 0, none⟩) s.size c) W ∧
    (convert 70 9 (.slice (some ⟨w.heap.size, 0, none⟩) s.size c)).run Tryd.prog W = .ok (.string s) W ∧ Aside0 (tenementlaw06_bend.At W w.heap.size (bytesOf s)) ∧ Aside0 (Below w.heap.size w W) ∧ Aside0 (W.heap.size = w.heap.size + 1) := by
  have hat : tenementlaw06_bend.At (Lib.bytesWorld w 5 s) w.heap.size (bytesOf s) := by
    intro j hj
    rw [bytesOf_length] at hj
    refine ⟨?_, ?_⟩
    · obtain ⟨_, _, hr⟩ := bytes_reads w 5 s hs
      obtain ⟨ad, had, hr⟩ := hr (by omega)
      have hr := hr j hj
      simp at had
      subst had
      rw [add_plain] at hr
      exact hr
    · have hsz : (Lib.bytesCells w 5 s).size = s.size + (grownCap w s.size 0 5 - s.size) := by
        unfold Lib.bytesCells; simp
      simp only [World.frozen?, Lib.bytesWorld_at_new]
      simp; omega
  refine ⟨_, _, Lib.run_convert_string_bytes (P := Tryd.prog) w 9 70 5 s Tryd.underlying9 Tryd.underlying70 Tryd.underlying5, ?_, ⟨hat⟩, ⟨bytes_below (Below.refl _ _) (Nat.le_refl _) _ _⟩, ⟨Lib.bytesWorld_size _ _ _⟩⟩
  have := hat.conv s.size (grownCap w s.size 0 5) (bytesOf_length s)
  rw [tenementlaw06_bend.str_bytes] at this
  exact this
theorem tenementlaw06_bend.At.drew {W : World} {B : Nat} {l : List Int} (h : tenementlaw06_bend.At W B l) : tenementlaw06_bend.At W.drew B l := fun j hj => ⟨by simpa [go_sem] using (h j hj).1, by simpa [go_sem] using (h j hj).2⟩
theorem tenementlaw06_bend.round {w0 w W : World} {B p n : Nat} {l : List Int} {x : Int} (hW : W = (w.setCell ⟨B, p, none⟩ (.int .u8 (Go.bits .xor .u8 (l[p]?.getD 0) x))).drew) (hn : l.length = n) (hp : p < n) (hB : w0.heap.size ≤ B) (h : tenementlaw06_bend.At w B l) (hb : Below w0.heap.size w0 w) :
    tenementlaw06_bend.At W B (tenementlaw06_bend.turn l p x) ∧ (tenementlaw06_bend.turn l p x).length = n ∧ Below w0.heap.size w0 W ∧ W.heap.size = w.heap.size := by
  subst hW
  refine ⟨?_, ?_, ?_, ?_⟩
  · unfold tenementlaw06_bend.turn
    rw [List.getD_eq_getElem?_getD]
    exact (h.set p (by omega) _).drew
  · unfold tenementlaw06_bend.turn; rw [List.length_set]; exact hn
  · exact below_drew (hb.setCell hB _)
  · simp
def tenementlaw06_bend.at_ (a1 : Int) : Int := if a1 < 0 then -(a1 + 1) else a1
def tenementlaw06_bend.f (a0 : ByteArray) (a1 a2 : Int) : Option ByteArray :=
  if a0.toList = [] then some a0 else
  if a0.size ≤ 9223372036854775807 ∧ -9223372036854775808 ≤ a1 ∧ a1 ≤ 9223372036854775807 then some (strOfNums (tenementlaw06_bend.turn (bytesOf a0) ((tenementlaw06_bend.at_ a1) % (a0.size : Int)).toNat a2)) else none
set_option maxHeartbeats 4000000 in
theorem tenementlaw06_bend.calls (a0 : ByteArray) (a1 : Int) (a2 : Int) (r : ByteArray) (w : World) (h : tenementlaw06_bend.f a0 a1 a2 = some r) :
    Calls Tryd.prog 32 #[.string a0, .int .i64 a1, .int .u8 a2] w fun e w' => e = .returned (.string r) ∧ Below w.heap.size w w' := by
  unfold tenementlaw06_bend.f at h
  by_cases c0 : a0.toList = []
  · rw [if_pos c0] at h
    obtain rfl := Option.some.inj h
    have c0b0 : (a0.toList == ([] : List UInt8)) = true := beq_iff_eq.mpr c0
    go_enter Tryd.func32, Tryd.ntmps32
    go_wp2
    go_ret
    exact ⟨rfl, Below.refl _ _⟩
  · rw [if_neg c0] at h
    have c0b0 : (a0.toList == ([] : List UInt8)) = false := beq_eq_false_iff_ne.mpr c0
    by_cases c1 : a0.size ≤ 9223372036854775807 ∧ -9223372036854775808 ≤ a1 ∧ a1 ≤ 9223372036854775807
    · rw [if_pos c1] at h
      obtain rfl := Option.some.inj h
      clear h
      obtain ⟨hz, hlo, hhi⟩ := c1
      have hz0 : 0 < a0.size := by
        rcases Nat.eq_zero_or_pos a0.size with e | e
        · exfalso
          apply c0
          have : a0 = ByteArray.empty := ByteArray.size_eq_zero_iff.1 e
          rw [this]
          decide +kernel
        · exact e
      clear c0
      obtain ⟨W, c, hcv, hcv2, HA, HB, HZ⟩ := tenementlaw06_bend.made w a0 hz
      by_cases c2 : a1 < 0
      · have b1 : decide (a1 < 0) = true := decide_eq_true c2
        have ha : tenementlaw06_bend.at_ a1 = -(a1 + 1) := by unfold tenementlaw06_bend.at_; rw [if_pos c2]
        rw [ha]
        clear ha
        obtain ⟨p, hp, hp4⟩ : ∃ p : Nat, (-(a1 + 1)) % (a0.size : Int) = (p : Int) ∧ p < a0.size := by
          have e1 := Int.emod_nonneg (-(a1 + 1)) (show (a0.size : Int) ≠ 0 by omega)
          have e2 := Int.emod_lt_of_pos (-(a1 + 1)) (show 0 < (a0.size : Int) by omega)
          exact ⟨((-(a1 + 1)) % (a0.size : Int)).toNat, by omega, by omega⟩
        rw [hp, Int.toNat_natCast]
        have hq : Int.tmod (-(a1 + 1)) (a0.size : Int) = (p : Int) := by rw [Int.tmod_eq_emod_of_nonneg (by omega), hp]
        have hg := (HA.out p (by rw [bytesOf_length]; exact hp4)).1
        have hf := (HA.out p (by rw [bytesOf_length]; exact hp4)).2
        have hb0 : 0 ≤ (p : Int) := Int.natCast_nonneg p
        have hb1 : (p : Int) < (a0.size : Int) := by omega
        go_enter Tryd.func32, Tryd.ntmps32
        go_wp2
        go_region
        obtain ⟨W3, hW⟩ : ∃ W', W' = (W.setCell ⟨w.heap.size, p, none⟩ (.int .u8 (Go.bits .xor .u8 ((bytesOf a0)[p]?.getD 0) a2))).drew := ⟨_, rfl⟩
        rw [← hW]
        obtain ⟨r1, r2, r3, r4⟩ := tenementlaw06_bend.round hW (bytesOf_length a0) hp4 (Nat.le_refl _) HA.out HB.out
        have hcv3 := r1.conv a0.size c r2
        clear hW hcv hcv2 r1 hg hf
        replace r3 := Aside0.mk r3
        go_wp2
        go_ret
        exact ⟨rfl, r3.out⟩
      · have b1 : decide (a1 < 0) = false := decide_eq_false c2
        have ha : tenementlaw06_bend.at_ a1 = a1 := by unfold tenementlaw06_bend.at_; rw [if_neg c2]
        rw [ha]
        clear ha
        obtain ⟨p, hp, hp4⟩ : ∃ p : Nat, (a1) % (a0.size : Int) = (p : Int) ∧ p < a0.size := by
          have e1 := Int.emod_nonneg (a1) (show (a0.size : Int) ≠ 0 by omega)
          have e2 := Int.emod_lt_of_pos (a1) (show 0 < (a0.size : Int) by omega)
          exact ⟨((a1) % (a0.size : Int)).toNat, by omega, by omega⟩
        rw [hp, Int.toNat_natCast]
        have hq : Int.tmod (a1) (a0.size : Int) = (p : Int) := by rw [Int.tmod_eq_emod_of_nonneg (by omega), hp]
        have hg := (HA.out p (by rw [bytesOf_length]; exact hp4)).1
        have hf := (HA.out p (by rw [bytesOf_length]; exact hp4)).2
        have hb0 : 0 ≤ (p : Int) := Int.natCast_nonneg p
        have hb1 : (p : Int) < (a0.size : Int) := by omega
        go_enter Tryd.func32, Tryd.ntmps32
        go_wp2
        go_region
        obtain ⟨W3, hW⟩ : ∃ W', W' = (W.setCell ⟨w.heap.size, p, none⟩ (.int .u8 (Go.bits .xor .u8 ((bytesOf a0)[p]?.getD 0) a2))).drew := ⟨_, rfl⟩
        rw [← hW]
        obtain ⟨r1, r2, r3, r4⟩ := tenementlaw06_bend.round hW (bytesOf_length a0) hp4 (Nat.le_refl _) HA.out HB.out
        have hcv3 := r1.conv a0.size c r2
        clear hW hcv hcv2 r1 hg hf
        replace r3 := Aside0.mk r3
        go_wp2
        go_ret
        exact ⟨rfl, r3.out⟩
    · rw [if_neg c1] at h
      exact absurd h (by simp)


end Go.Proofs.YtakhahfegialfaaDoor.Q
