import Derived.Test.YtoogchgoiciggaaQx0
import Derived.Test.YtoogchgoiciggaaGItemBack0
import Derived.Below
import Derived.OrdersHeld
import Derived.Test.YtoogchgoiciggaaWAMore
import Derived.Deep.Slices
import Derived.OpenShut
import Derived.SizedLaws
import Derived.ChangeArms
import Derived.WideShapes
import Derived.ChangeShapes
import Derived.KernelRfl
import Derived.Laws.BitsAllLaws
import Derived.Test.YtoogchgoiciggaaGItemBack1
namespace Go.Proofs.Ytoogchgoiciggaa.Q
open Go.RowKit Go.Proofs.YtoogchgoiciggaaW.PrintWords Go.Proofs.YtoogchgoiciggaaW.PrintLast Go.Proofs.YtoogchgoiciggaaW.PrintMore
attribute [local go_sem] max2_int min2_int max_two min_two max_three min_three max_four min_four   -- for this text's walks alone
set_option linter.unusedVariables false
set_option linter.unusedSimpArgs false
/-! ### crc_next: function 68 -/
def crc_next.l0 : Nat → Int → Int → Option (Int)
  | 0, _, _ => none
  | k + 1, x0, x9 => if x9 < 8 then (crc_next.l0 k (Go.bits .xor .u32 (x0 / 2) (Go.bits .and .u32 3988292384 ((-(Go.bits .and .u32 x0 1)) % 4294967296))) (wrap64 (x9 + 1))) else (some x0)
def crc_next.f (k : Nat) (a0 : Int) (a1 : Int) : Option (Int) := crc_next.l0 k (Go.bits .xor .u32 a0 ((a1) % 4294967296)) 0
theorem crc_next.mono_l : ∀ k, (∀ y0 y1, LeO (crc_next.l0 k y0 y1) (crc_next.l0 (k + 1) y0 y1))
  | 0 => fun _ _ r h => by simp [crc_next.l0] at h
  | k + 1 => by
    have ih0 := crc_next.mono_l k
    · intro y0 y1
      unfold crc_next.l0
      repeat' first
      | (with_reducible exact ih0 _ _)
      | (with_reducible exact LeO.refl _)
      | (with_reducible exact LeO.none _)
      | (with_reducible refine LeO.ite ?_ ?_)
      | (with_reducible refine LeO.bind ?_ (fun _ => ?_))
      | exact ih0 _ _
      | exact LeO.none _
      | refine LeO.ite ?_ ?_
      | refine LeO.bind ?_ (fun _ => ?_)
theorem crc_next.mono : ∀ a0 a1 k, LeO (crc_next.f k a0 a1) (crc_next.f (k + 1) a0 a1) := by
  intro a0 a1 k
  have ih0 := crc_next.mono_l k
  unfold crc_next.f
  repeat' first
      | (with_reducible exact ih0 _ _)
      | (with_reducible exact LeO.refl _)
      | (with_reducible exact LeO.none _)
      | (with_reducible refine LeO.ite ?_ ?_)
      | (with_reducible refine LeO.bind ?_ (fun _ => ?_))
      | exact ih0 _ _
      | exact LeO.none _
      | refine LeO.ite ?_ ?_
      | refine LeO.bind ?_ (fun _ => ?_)
set_option maxHeartbeats 8000000 in
set_option maxRecDepth 100000 in
theorem crc_next.calls (k : Nat) (a0 : Int) (a1 : Int) (r : Int) (w : World) (h : crc_next.f k a0 a1 = some r) :
    Calls Try.prog 68 #[.int .u32 a0, .int .u8 a1] w fun e w' => e = .returned (.int .u32 r) ∧ Drawn0 w w' := by
  have H : (crc_next.l0 k (Go.bits .xor .u32 a0 ((a1) % 4294967296)) 0) = some r := h
  clear h
  have H' := Aside0.mk H
  clear H
  go_enter Try.func68, Try.ntmps68
  go_wp2
  go_loopg [0, 9] k (fun kq v0 v9 w' => ∃ (x0_1 : Int) (x9_1 : Int), v0 = .int .u32 x0_1 ∧ v9 = .int .i64 x9_1 ∧ Aside0 (crc_next.l0 kq x0_1 x9_1 = some r) ∧ Aside0 (kq ≤ k) ∧ Drawn0 w w')
  case atStart => exact ⟨(Go.bits .xor .u32 a0 ((a1) % 4294967296)), (0), (by first | rfl | (simp; done) | (simp [*]; done)), (by first | rfl | (simp; done) | (simp [*]; done)), H', ⟨Nat.le_refl _⟩, by repeat (first | exact Drawn0.refl _ | apply Drawn0.step)⟩
  case round =>
    clear H'
    try clear p2
    obtain ⟨x0_1, x9_1, rfl, rfl, HA, HK1, ⟨m1, rfl⟩⟩ := hrel
    cases gk with
    | zero => exact absurd HA.out (by simp [crc_next.l0])
    | succ k1 =>
      have H := HA.out
      clear HA
      simp only [crc_next.l0] at H
      by_cases c3 : x9_1 < 8
      rotate_left
      · rw [if_neg c3] at H
        have c3b0 : decide (x9_1 < 8) = false := decide_eq_false c3
        clear c3
        obtain rfl := Option.some.inj H
        go_wp2
        go_ret
        exact ⟨by first | rfl | (simp; done) | (simp [*]; done), by repeat (first | exact Drawn0.refl _ | apply Drawn0.step)⟩
      rw [if_pos c3] at H
      have c3b0 : decide (x9_1 < 8) = true := decide_eq_true c3
      clear c3
      have H' := Aside0.mk H
      clear H
      go_wp2
      go_roundg k1
      case measure => have := HK1.out; omega
      case rel => exact ⟨(Go.bits .xor .u32 (x0_1 / 2) (Go.bits .and .u32 3988292384 ((-(Go.bits .and .u32 x0_1 1)) % 4294967296))), (wrap64 (x9_1 + 1)), (by first | rfl | (simp; done) | (simp [*]; done)), (by first | rfl | (simp; done) | (simp [*]; done)), H', ⟨by have := HK1.out; omega⟩, by repeat (first | exact Drawn0.refl _ | apply Drawn0.step)⟩
/-! ### crc_Sum: function 50 -/
-- FOREIGN: ranges over []byte(s)
def crc_Sum.fold (k : Nat) (s : ByteArray) : Nat → Option (Int)
  | 0 => some 4294967295
  | i + 1 => (crc_Sum.fold k s i).bind fun c => crc_next.f k c (bt s (i : Int))
def crc_Sum.f (k : Nat) (a0 : ByteArray) : Option (Int) :=
  if a0.size ≤ 9223372036854775807 then (crc_Sum.fold k a0 a0.size).bind fun c => some (Go.bits .xor .u32 4294967295 c) else none
theorem crc_Sum.mono_fold (s : ByteArray) (k : Nat) : ∀ n, LeO (crc_Sum.fold k s n) (crc_Sum.fold (k + 1) s n)
  | 0 => LeO.refl _
  | n + 1 => LeO.bind (crc_Sum.mono_fold s k n) (fun c => crc_next.mono _ _ _)
theorem crc_Sum.mono : ∀ a0 k, LeO (crc_Sum.f k a0) (crc_Sum.f (k + 1) a0) := by
  intro a0 k
  unfold crc_Sum.f
  exact LeO.ite (LeO.bind (crc_Sum.mono_fold _ _ _) (fun _ => LeO.refl _)) (LeO.none _)
theorem crc_Sum.fold_some {k : Nat} {s : ByteArray} : ∀ {n : Nat} {c : Int}, crc_Sum.fold k s n = some c → ∀ i, i ≤ n → ∃ d, crc_Sum.fold k s i = some d
  | 0, c, h, i, hi => by obtain rfl : i = 0 := by omega
                         exact ⟨c, h⟩
  | n + 1, c, h, i, hi => by
    by_cases e : i = n + 1
    · subst e; exact ⟨c, h⟩
    · obtain ⟨d, hd, _⟩ := Option.bind_eq_some_iff.1 h
      exact crc_Sum.fold_some hd i (by omega)
set_option maxHeartbeats 1000000 in
theorem crc_Sum.calls (k : Nat) (a0 : ByteArray) (r : Int) (w : World) (h : crc_Sum.f k a0 = some r) :
    Calls Try.prog 50 #[.string a0] w fun e w' => e = .returned (.int .u32 r) ∧ Below w.heap.size w w' := by
  unfold crc_Sum.f at h
  by_cases hm : a0.size ≤ 9223372036854775807
  · rw [if_pos hm] at h
    obtain ⟨c, hc0, hr0⟩ := Option.bind_eq_some_iff.1 h
    obtain rfl := Option.some.inj hr0
    have HC := Aside0.mk hc0
    clear h hr0 hc0
    have hcv := fun W t => Lib.run_convert_string_bytes (P := Try.prog) W 9 76 5 t Try.underlying9 Try.underlying76 Try.underlying5
    go_enter Try.func50, Try.ntmps50
    go_wp2
    obtain ⟨W, hW⟩ : ∃ W, W = Lib.bytesWorld w 5 a0 := ⟨_, rfl⟩
    have HB := Aside0.mk (show Below w.heap.size w W by rw [hW]; exact bytes_below (Below.refl _ _) (Nat.le_refl _) _ _)
    have HE := Aside0.mk (show ∀ j : Nat, j < a0.size → W.cell? ⟨w.heap.size, j, none⟩ = some (.int .u8 (bt a0 j)) by
      intro j hj
      obtain ⟨_, _, hr⟩ := bytes_reads w 5 a0 hm
      rw [← hW] at hr
      obtain ⟨ad, had, hr⟩ := hr (by omega)
      have hr := hr j hj
      simp at had
      subst had
      rw [add_plain] at hr
      rw [hr]
      have e1 : (bytesOf a0).getD j 0 = bt a0 j := rd_bytesOf a0 j
      rw [e1])
    have HS := Aside0.mk (show w.heap.size < W.heap.size by rw [hW, Lib.bytesWorld_size]; omega)
    rw [← hW]
    clear hW hcv
    go_loopw [9, 3] (fun i v wr => ∃ (j : Nat) (d : Int), j ≤ a0.size ∧ i = .int .i64 j ∧ v = .int .u32 d ∧ Aside0 (crc_Sum.fold k a0 j = some d) ∧ Aside0 (Below W.heap.size W wr)) (fun i _ _ => a0.size - (intOf i).toNat)
    case atStart => exact ⟨0, _, Nat.zero_le _, rfl, rfl, ⟨rfl⟩, ⟨Below.refl _ _⟩⟩
    case round =>
      obtain ⟨j, d, hj, rfl, rfl, HD, HW⟩ := hrel
      by_cases hlt : j < a0.size
      · obtain ⟨d', hd'⟩ := crc_Sum.fold_some HC.out (j + 1) hlt
        have hn : crc_next.f k d (bt a0 j) = some d' := by
          have := hd'
          simp only [crc_Sum.fold] at this
          rw [HD.out] at this
          exact this
        have HN := Aside0.mk hn
        have HD' := Aside0.mk hd'
        clear hn hd'
        have hcell := (HW.out.cell (p := ⟨w.heap.size, j, none⟩) HS.out).trans (HE.out j hlt)
        go_wp2_with (go_at_call 68; refine (crc_next.calls k d (bt a0 j) d' _ HN.out).mono ?_; rintro e w1 ⟨rfl, hb1⟩; have HW1 := Aside0.mk (HW.out.trans (hb1.below.mono HW.out.size)); clear hb1)
        go_roundw
        case rel => exact ⟨j + 1, d', by omega, by go_num, rfl, HD', HW1⟩
        case measure => simp [intOf]; omega
      · obtain rfl : j = a0.size := by omega
        obtain rfl : d = c := Option.some.inj (HD.out.symm.trans HC.out)
        go_wp2
        go_ret
        exact ⟨rfl, HB.out.trans (HW.out.mono (Nat.le_of_lt HS.out))⟩
  · rw [if_neg hm] at h
    exact absurd h (by simp)
/-! ### item_Shard: function 28 -/
def item_Shard.f (k : Nat) (a0 : ByteArray) (a1 : ByteArray) (a2 : Int) : Option (Int) := if a2 < 1 then (some 1) else ((pack_Text.f k a0).bind fun t146 => ((pack_Text.f k a1).bind fun t147 => (if t146.size + t147.size ≤ 9223372036854775807 then ((crc_Sum.f k (t146 ++ t147)).bind fun t148 => (if a2 = 0 then (none) else (some (wrap64 ((Int.tmod (wrap64 (t148)) a2) + 1))))) else (none))))
theorem item_Shard.mono : ∀ a0 a1 a2 k, LeO (item_Shard.f k a0 a1 a2) (item_Shard.f (k + 1) a0 a1 a2) := by
  intro a0 a1 a2 k
  unfold item_Shard.f
  repeat' first
      | (with_reducible exact crc_Sum.mono _ _)
      | (with_reducible exact pack_Text.mono _ _)
      | (with_reducible exact LeO.refl _)
      | (with_reducible exact LeO.none _)
      | (with_reducible refine LeO.ite ?_ ?_)
      | (with_reducible refine LeO.bind ?_ (fun _ => ?_))
      | exact crc_Sum.mono _ _
      | exact pack_Text.mono _ _
      | exact LeO.none _
      | refine LeO.ite ?_ ?_
      | refine LeO.bind ?_ (fun _ => ?_)
set_option maxHeartbeats 8000000 in
set_option maxRecDepth 100000 in
theorem item_Shard.calls (k : Nat) (a0 : ByteArray) (a1 : ByteArray) (a2 : Int) (r : Int) (w : World) (h : item_Shard.f k a0 a1 a2 = some r) :
    Calls Try.prog 28 #[.string a0, .string a1, .int .i64 a2] w fun e w' => e = .returned (.int .i64 r) ∧ Below w.heap.size w w' := by
  have HB := Aside0.mk (Below.refl w.heap.size w)
  have H : (if a2 < 1 then (some 1) else ((pack_Text.f k a0).bind fun t146 => ((pack_Text.f k a1).bind fun t147 => (if t146.size + t147.size ≤ 9223372036854775807 then ((crc_Sum.f k (t146 ++ t147)).bind fun t148 => (if a2 = 0 then (none) else (some (wrap64 ((Int.tmod (wrap64 (t148)) a2) + 1))))) else (none))))) = some r := h
  (try (have Hs_ := H; simp only [ByteArray.size_append, Int.natCast_add] at Hs_))
  clear h
  by_cases c4 : a2 < 1
  · rw [if_pos c4] at H
    have c4b0 : decide (a2 < 1) = true := decide_eq_true c4
    clear c4
    obtain rfl := Option.some.inj H
    go_enter Try.func28, Try.ntmps28
    go_wp2
    go_ret
    exact ⟨Kh_, Ky_ HB⟩
  rw [if_neg c4] at H
  have c4b0 : decide (a2 < 1) = false := decide_eq_false c4
  clear c4
  replace H := Option.bind_eq_some_iff.mp H
  obtain ⟨t146, A50, H⟩ := H
  replace H : ((pack_Text.f k a1).bind fun t147 => (if t146.size + t147.size ≤ 9223372036854775807 then ((crc_Sum.f k (t146 ++ t147)).bind fun t148 => (if a2 = 0 then (none) else (some (wrap64 ((Int.tmod (wrap64 (t148)) a2) + 1))))) else (none))) = some r := H
  have A5 := Aside0.mk A50
  clear A50
  replace H := Option.bind_eq_some_iff.mp H
  obtain ⟨t147, A60, H⟩ := H
  replace H : (if t146.size + t147.size ≤ 9223372036854775807 then ((crc_Sum.f k (t146 ++ t147)).bind fun t148 => (if a2 = 0 then (none) else (some (wrap64 ((Int.tmod (wrap64 (t148)) a2) + 1))))) else (none)) = some r := H
  have A6 := Aside0.mk A60
  clear A60
  by_cases c7 : t146.size + t147.size ≤ 9223372036854775807
  rotate_left
  · rw [if_neg c7] at H
    exact absurd H (by simp)
  rw [if_pos c7] at H
  have c7b0 := eq_true c7
  have c7b1 : decide (t146.size + t147.size ≤ 9223372036854775807) = true := decide_eq_true c7
  try have c7b2 : (9223372036854775807 < t146.size + t147.size) = False := eq_false (Nat.not_lt.2 c7)
  replace H := Option.bind_eq_some_iff.mp H
  obtain ⟨t148, A80, H⟩ := H
  replace H : (if a2 = 0 then (none) else (some (wrap64 ((Int.tmod (wrap64 (t148)) a2) + 1)))) = some r := H
  have A8 := Aside0.mk A80
  clear A80
  by_cases c9 : a2 = 0
  · rw [if_pos c9] at H
    exact absurd H (by simp)
  rw [if_neg c9] at H
  have c9b0 : (a2 == 0) = false := beq_eq_false_iff_ne.mpr c9
  have c9b1 : (a2 != 0) = true := bne_iff_ne.mpr c9
  obtain rfl := Option.some.inj H
  go_enter Try.func28, Try.ntmps28
  go_wp2_with (first | ((with_reducible refine gate_callee (f := 37) rfl ?_); refine Kg_ (some 10) rfl rfl Try.func37 (by kernel_rfl) rfl #[.string a0] rfl ?_; (with_reducible refine (pack_Text.calls k a0 t146 _ A5.out).mono ?_); rintro e w10 ⟨rfl, hb⟩; refine ⟨_, rfl, ?_⟩; replace HB := Ks_ HB hb; (try clear hb); (try clear hb2); (try clear hk); (try clear hi)) | ((with_reducible refine gate_callee (f := 37) rfl ?_); refine Kg_ (some 12) rfl rfl Try.func37 (by kernel_rfl) rfl #[.string a1] rfl ?_; (with_reducible refine (pack_Text.calls k a1 t147 _ A6.out).mono ?_); rintro e w11 ⟨rfl, hb⟩; refine ⟨_, rfl, ?_⟩; replace HB := Ks_ HB hb; (try clear hb); (try clear hb2); (try clear hk); (try clear hi)) | ((with_reducible refine gate_callee (f := 50) rfl ?_); refine Kg_ (some 14) rfl rfl Try.func50 (by kernel_rfl) rfl #[.string (t146 ++ t147)] rfl ?_; (with_reducible refine (crc_Sum.calls k (t146 ++ t147) t148 _ A8.out).mono ?_); rintro e w12 ⟨rfl, hb⟩; refine ⟨_, rfl, ?_⟩; replace HB := Ks_ HB hb; (try clear hb); (try clear hb2); (try clear hk); (try clear hi)))
  go_ret
  exact ⟨Kh_, Ky_ HB⟩
/-! ### item_Of: function 26 -/
-- FOREIGN: those of a list of which a closure says so
def item_Of.l (k : Nat) (sh n : Int) : List S23 → Option (List S23)
  | [] => some []
  | x :: xs => (item_Shard.f k x.f0 x.f1 n).bind fun t => (item_Of.l k sh n xs).bind fun r => some (if t = sh then x :: r else r)
def item_Of.f (k : Nat) (a0_0 a0_1 a0_2 a0_3 a0_4 : Int) (l0_5 : List (S23)) (a1 a2 : Int) : Option (List (S23)) := if l0_5.length < 2513169434916 then item_Of.l k a1 a2 l0_5 else none
theorem item_Of.mono_l (k : Nat) (sh n : Int) : ∀ xs, LeO (item_Of.l k sh n xs) (item_Of.l (k + 1) sh n xs)
  | [] => LeO.refl _
  | x :: xs => by
    unfold item_Of.l
    exact LeO.bind (item_Shard.mono _ _ _ _) (fun _ => LeO.bind (item_Of.mono_l k sh n xs) (fun _ => LeO.refl _))
theorem item_Of.mono : ∀ a0 a1 a2 a3 a4 a5 a6 a7 k, LeO (item_Of.f k a0 a1 a2 a3 a4 a5 a6 a7) (item_Of.f (k + 1) a0 a1 a2 a3 a4 a5 a6 a7) := by
  intro a0 a1 a2 a3 a4 a5 a6 a7 k
  unfold item_Of.f
  exact LeO.ite (item_Of.mono_l _ _ _ _) (LeO.refl _)
theorem item_Of.each (k : Nat) (sh n : Int) : ∀ (xs r : List S23), item_Of.l k sh n xs = some r → ∃ p : S23 → Int, (∀ x ∈ xs, item_Shard.f k x.f0 x.f1 n = some (p x)) ∧ r = xs.filter (fun x => decide (p x = sh))
  | [], r, h => by
    cases h
    exact ⟨fun _ => 0, fun x hx => by simp at hx, rfl⟩
  | x :: xs, r, h => by
    unfold item_Of.l at h
    obtain ⟨t, ht, h⟩ := Option.bind_eq_some_iff.1 h
    obtain ⟨r1, h1, h⟩ := Option.bind_eq_some_iff.1 h
    obtain ⟨p, hp, rfl⟩ := item_Of.each k sh n xs r1 h1
    have hq : ∀ y ∈ x :: xs, item_Shard.f k y.f0 y.f1 n = some ((item_Shard.f k y.f0 y.f1 n).getD 0) := by
      intro y hy
      rcases List.mem_cons.1 hy with rfl | hy
      · rw [ht]; rfl
      · rw [hp y hy]; rfl
    have hf : xs.filter (fun x => decide (p x = sh)) = xs.filter (fun x => decide ((item_Shard.f k x.f0 x.f1 n).getD 0 = sh)) := by
      apply List.filter_congr
      intro y hy
      rw [hp y hy]
      rfl
    refine ⟨fun y => (item_Shard.f k y.f0 y.f1 n).getD 0, hq, ?_⟩
    cases h
    have ht' : (item_Shard.f k x.f0 x.f1 n).getD 0 = t := by rw [ht]; rfl
    rw [hf, List.filter_cons]
    show _ = if decide ((item_Shard.f k x.f0 x.f1 n).getD 0 = sh) = true then _ else _
    rw [ht']
    by_cases c : t = sh
    · rw [if_pos c, if_pos (decide_eq_true c)]
    · rw [if_neg c, if_neg (by simpa using c)]
theorem item_Of.info : (Try.prog.info? 23).map (fun i => (i.zero, i.size, i.bytes)) = some (some (.agg #[(.string ⟨#[]⟩), (.string ⟨#[]⟩), (.string ⟨#[]⟩), (.bool false)]), 4, 56) := by kernel_rfl
abbrev item_Of.enc (x : S23) : Value := .agg #[.string x.f0, .string x.f1, .string x.f2, .bool x.f3]
set_option maxHeartbeats 8000000 in
set_option maxRecDepth 100000 in
theorem item_Of.pick_ (p : S23 → Bool) (g : Nat) (lb : Array Value) (eg : ∀ args w, (callFunc g args).run Try.prog w = .ok (.enter g args) w) (A : Option Addr) (c : Nat) (l : List S23) (w : World) (hl : l.length < 2513169434916) (hr : Kd.C k23 w A l.length l) (hc : l.length ≤ c)
    (hp : ∀ (W : World) (x : S23), x ∈ l → Below w.heap.size w W → Calls Try.prog g (#[item_Of.enc x] ++ lb) W fun e w' => e = .returned (.bool (p x)) ∧ Below W.heap.size W w') :
    Calls Try.prog 48 #[.slice A l.length c, .func (.func g) #[] lb] w fun e w' => ∃ v0_ : Value, e = .returned (v0_) ∧ Kd.R k23 23 w' w.heap.size (fun _ => True) v0_ (l.filter p) ∧ Below w.heap.size w w' := by
  have hu23 := Try.underlying23
  have HR0 := Aside0.mk hr
  clear hr
  have HB := Aside0.mk (Below.refl w.heap.size w)
  have HP := Aside0.mk hp
  clear hp
  go_enter Try.func48, Try.ntmps48
  go_wp2
  go_loopg [5, 10] l.length (fun kq v5 v10 w' => ∃ (j : Nat), v10 = .int .i64 j ∧ Aside0 (j ≤ l.length) ∧ Aside0 (l.length - j ≤ kq) ∧ Aside0 (Kd.R k23 23 w' w.heap.size (fun _ => True) v5 ((l.take j).filter p)) ∧ Aside0 (Below w.heap.size w w'))
  case atStart => exact ⟨0, rfl, ⟨by omega⟩, ⟨by omega⟩, ⟨Kd.R_nil _ _ _ _ _⟩, HB⟩
  case round =>
    obtain ⟨j, rfl, HJ, HK, HO, HB⟩ := hrel
    by_cases c1 : j < l.length
    rotate_left
    · have c1b : decide ((j : Int) < (l.length : Int)) = false := decide_eq_false (by omega)
      have e : l.take j = l := List.take_of_length_le (by omega)
      rw [e] at HO
      go_wp2
      go_ret
      exact ⟨_, rfl, HO.out, HB.out⟩
    · have c1b : decide ((j : Int) < (l.length : Int)) = true := decide_eq_true (by omega)
      have c0b : decide (0 ≤ (j : Int)) = true := decide_eq_true (by omega)
      have hx : l[j]? = .some (rd_T23 l j) := by
        unfold rd_T23
        rw [Int.toNat_natCast, List.getD_eq_getElem?_getD, List.getElem?_eq_getElem c1]
        rfl
      have hm : rd_T23 l j ∈ l := List.mem_of_getElem? hx
      obtain ⟨ad, e0, h0, h1, h2, h3⟩ := at_T23 HR0.out (j : Int) (by omega) (by omega)
      cases e0
      replace h0 := (HB.out.cell (World.block_lt_of_cell? w _ h0)).trans h0
      replace h1 := (HB.out.cell (World.block_lt_of_cell? w _ h1)).trans h1
      replace h2 := (HB.out.cell (World.block_lt_of_cell? w _ h2)).trans h2
      replace h3 := (HB.out.cell (World.block_lt_of_cell? w _ h3)).trans h3
      have HX := Aside0.mk (show (l.take (j + 1)).filter p = (l.take j).filter p ++ (if p (rd_T23 l j) = true then [rd_T23 l j] else []) by
        rw [List.take_add_one, hx, List.filter_append]
        simp only [Option.toList, List.filter_cons, List.filter_nil])
      clear hx
      generalize rd_T23 l j = x at *
      obtain ⟨x0, x1, x2, x3⟩ := x
      simp only [Int.toNat_natCast] at h0 h1 h2 h3
      have LM := Aside0.mk (show ((l.take j).filter p).length < 2513169434916 by
        have i1 := List.length_filter_le p (l.take j)
        have i2 := List.length_take_le j l
        omega)
      have HQ := Aside0.mk (below_alloc HB.out (Obj.cells #[.string x0, .string x1, .string x2, .bool x3] 23))
      have HO1 : Aside0 (Kd.R k23 23 (wr.alloc (Obj.cells #[.string x0, .string x1, .string x2, .bool x3] 23)) w.heap.size (fun _ => True) u5 ((l.take j).filter p)) := ⟨by apply Kd.R_alloc; exact HO.out⟩
      have hbk0 : (wr.alloc (Obj.cells #[.string x0, .string x1, .string x2, .bool x3] 23)).heap[wr.heap.size]? = some (Obj.cells #[.string x0, .string x1, .string x2, .bool x3] 23 (0, 0)) := blk_new _ _
      have hcall := HP.out (wr.alloc (Obj.cells #[.string x0, .string x1, .string x2, .bool x3] 23)) ⟨x0, x1, x2, x3⟩ hm HQ.out
      have hbk := Aside0.mk hbk0
      clear hbk0
      have HX' := HX.out
      clear HX HO HB hm
      cases hq : p ⟨x0, x1, x2, x3⟩ with
      | true =>
        rw [hq] at hcall HX'
        rw [if_pos rfl] at HX'
        have HC := Aside0.mk hcall
        clear hcall
        replace HX' := Aside0.mk HX'
        go_wp2_with (fail)
        refine HC.out.mono ?_
        rintro e w1 ⟨rfl, hb⟩
        have BK := blk_below hbk.out hb
        replace HO1 := Aside0.mk (Kd.R_below HO1.out hb)
        replace HQ := Aside0.mk (below_step HQ.out hb)
        clear hb hbk HC
        obtain ⟨k0, k1, k2, k3, z0, z1, z2, z3⟩ := Ke4_ BK
        clear BK
        go_wp2_with (first | ((with_reducible refine gate_builtin (b := .append) (xs := #[.tmp 17, .tmp 19]) rfl ?_); at_builtin; refine Kd.R_append k23 (w0 := w) w.heap.size rfl (.tmp 17) (.tmp 19) 41 23 (.agg #[(.string ⟨#[]⟩), (.string ⟨#[]⟩), (.string ⟨#[]⟩), (.bool false)]) 56 rfl Try.underlying41 item_Of.info rfl (by decide) (by omega) u5 ((l.take j).filter p) ⟨x0, x1, x2, x3⟩ [.string x0, .string x1, .string x2, .bool x3] (fun _ => True) (fun _ => False) rfl rfl ?aP (fun _ hk => hk.elim) ?aF ?aO ?aB ?aS ?aL ?_; (case aP => exact k23_mkM _ _ _ ⟨x0, x1, x2, x3⟩); (case aB => exact HQ.out); (case aF => exact (fun _ _ => trivial)); (case aO => exact HO1.out); (case aS => exact (below_size HQ.out)); (case aL => have := LM.out; omega); intro v1 w2 ho hb hg hat; rw [← HX'.out] at ho; have HO2 := Aside0.mk ho; have HB2 := Aside0.mk hb; clear ho hb hg hat))
        go_roundg (l.length - (j + 1))
        case measure => have := HK.out; omega
        case rel => exact ⟨j + 1, by first | rfl | (rw [show ((j + 1 : Nat) : Int) = (j : Int) + 1 by omega]; rfl) | (rw [show ((j + 1 : Nat) : Int) = (j : Int) + 1 by omega]; congr 1; exact wrap64_id (by omega) (by omega)), ⟨by omega⟩, ⟨by omega⟩, HO2, HB2⟩
      | false =>
        rw [hq] at hcall HX'
        rw [if_neg (by simp), List.append_nil] at HX'
        have HC := Aside0.mk hcall
        clear hcall
        replace HX' := Aside0.mk HX'
        go_wp2_with (fail)
        refine HC.out.mono ?_
        rintro e w1 ⟨rfl, hb⟩
        replace HO1 := Aside0.mk (Kd.R_below HO1.out hb)
        replace HQ := Aside0.mk (below_step HQ.out hb)
        clear hb hbk HC
        go_wp2
        go_roundg (l.length - (j + 1))
        case measure => have := HK.out; omega
        case rel => exact ⟨j + 1, by first | rfl | (rw [show ((j + 1 : Nat) : Int) = (j : Int) + 1 by omega]; rfl) | (rw [show ((j + 1 : Nat) : Int) = (j : Int) + 1 by omega]; congr 1; exact wrap64_id (by omega) (by omega)), ⟨by omega⟩, ⟨by omega⟩, ⟨by rw [HX'.out]; exact HO1.out⟩, HQ⟩
theorem item_Of.boxes3 (w : World) (xs ys zs : Array Value) (t1 t2 t3 : TypeId) (W : World) (h : ((w.alloc (.cells xs t1)).alloc (.cells ys t2)).alloc (.cells zs t3) = W) :
    W.heap[w.heap.size]? = some (.cells xs t1 (0,0)) ∧ W.heap[w.heap.size+1]? = some (.cells ys t2 (0,0)) ∧ W.heap[w.heap.size+1+1]? = some (.cells zs t3 (0,0)) ∧ Below w.heap.size w W := by
  subst h
  have s1 : (w.alloc (.cells xs t1)).heap.size = w.heap.size + 1 := by simp [World.alloc, -World.alloc_eq]
  have s2 : ((w.alloc (.cells xs t1)).alloc (.cells ys t2)).heap.size = w.heap.size + 1 + 1 := by simp [World.alloc, -World.alloc_eq]
  refine ⟨blk_alloc (blk_alloc (blk_new _ _) _) _, ?_, ?_, below_alloc (below_alloc (below_alloc (Below.refl _ _) _) _) _⟩
  · rw [← s1]; exact blk_alloc (blk_new _ _) _
  · rw [← s2]; exact blk_new _ _
theorem item_Of.keep_ {w w1 : World} {p : Addr} {v : Value} (hb : Below w.heap.size w w1) (h : w.cell? p = some v) : w1.cell? p = some v := (hb.cell (World.block_lt_of_cell? w p h)).trans h
theorem item_Of.enters_ (P : Program) {f : FuncId} {fn : Func} {c : Code} (hf : P.funcs[f]? = some fn) (hname : (fn.name == "runtime.NumGoroutine") = false) (hb : fn.body = some c) (args : Array Value) (w : World) : (callFunc f args).run P w = .ok (.enter f args) w := by
  have h1 : fn.name ≠ "runtime.NumGoroutine" := by simpa using hname
  simp [callFunc, hf, h1, hb, mark]
set_option maxHeartbeats 8000000 in
set_option maxRecDepth 100000 in
theorem item_Of.clos (k : Nat) (sh n t : Int) (B1 B2 : Nat) (x0 x1 x2 : ByteArray) (x3 : Bool) (w : World) (h : item_Shard.f k x0 x1 n = some t) (l1 : B1 < w.heap.size) (l2 : B2 < w.heap.size) (c1 : w.cell? ⟨B1, 0, none⟩ = some (.int .i64 n)) (c2 : w.cell? ⟨B2, 0, none⟩ = some (.int .i64 sh)) :
    Calls Try.prog 49 #[.agg #[.string x0, .string x1, .string x2, .bool x3], .pointer (some ⟨B1, 0, none⟩), .pointer (some ⟨B2, 0, none⟩)] w fun e w' => e = .returned (.bool (decide (t = sh))) ∧ Below w.heap.size w w' := by
  have HB := Aside0.mk (Below.refl w.heap.size w)
  have n1 : B1 ≠ w.heap.size := by omega
  have n2 : B2 ≠ w.heap.size := by omega
  go_enter Try.func49, Try.ntmps49
  go_wp2_with (fail)
  have hbk : (w.alloc (Obj.cells #[.string x0, .string x1, .string x2, .bool x3] 23)).heap[w.heap.size]? = some (Obj.cells #[.string x0, .string x1, .string x2, .bool x3] 23 (0, 0)) := blk_new _ _
  replace HB := Aside0.mk (below_alloc HB.out (Obj.cells #[.string x0, .string x1, .string x2, .bool x3] 23))
  have d1 := (World.cell?_alloc_lt w (Obj.cells #[.string x0, .string x1, .string x2, .bool x3] 23) ⟨B1, 0, none⟩ l1).trans c1
  have d2 := (World.cell?_alloc_lt w (Obj.cells #[.string x0, .string x1, .string x2, .bool x3] 23) ⟨B2, 0, none⟩ l2).trans c2
  clear c1 c2
  generalize w.alloc (Obj.cells #[.string x0, .string x1, .string x2, .bool x3] 23) = W0 at *
  obtain ⟨k0, k1, k2, k3, z0, z1, z2, z3⟩ := Ke4_ hbk
  clear hbk z0 z1 z2 z3 k2 k3
  have hb0 := Aside0.mk (rfl : w.heap.size = w.heap.size)
  generalize hg : w.heap.size = gb at k0 k1 ⊢
  replace hg := Aside0.mk hg
  go_region_held3 (fun w' => w'.cell? ⟨gb, 0, none⟩ = some (.string x0) ∧ w'.cell? ⟨gb, 1, none⟩ = some (.string x1) ∧ w'.cell? ⟨B1, 0, none⟩ = some (.int .i64 n) ∧ w'.cell? ⟨B2, 0, none⟩ = some (.int .i64 sh))
    (first | go_keep | (go_split_ands; refine ⟨?_, ?_, ?_, ?_⟩ <;> exact item_Of.keep_ hb (by assumption)))
    (first | (go_at_call 28; refine (item_Shard.calls k x0 x1 n t _ h).mono ?_; rintro e w1 ⟨rfl, hb⟩))
  go_wp2
  go_ret
  exact ⟨rfl, by first | exact below_step HB.out hb | exact below_step (below_drew1 HB.out) hb⟩
set_option maxHeartbeats 8000000 in
set_option maxRecDepth 100000 in
theorem item_Of.calls (k : Nat) (a0_0 a0_1 a0_2 a0_3 a0_4 : Int) (A0_5 : Option Addr) (c0_5 : Nat) (l0_5 : List (S23)) (a1 a2 : Int) (r : List (S23)) (w : World) (hr0_5 : Kd.C k23 w A0_5 l0_5.length l0_5) (hc0_5 : l0_5.length ≤ c0_5) (h : item_Of.f k a0_0 a0_1 a0_2 a0_3 a0_4 l0_5 a1 a2 = some r) :
    Calls Try.prog 26 #[.agg #[.int .u64 a0_0, .int .u64 a0_1, .int .u64 a0_2, .int .u64 a0_3, .int .i64 a0_4, .slice A0_5 l0_5.length c0_5], .int .i64 a1, .int .i64 a2] w fun e w' => ∃ v0_ : Value, e = .returned (v0_) ∧ Kd.R k23 23 w' w.heap.size (fun _ => True) v0_ r ∧ Below w.heap.size w w' := by
  unfold item_Of.f at h
  by_cases hl : l0_5.length < 2513169434916
  rotate_left
  · rw [if_neg hl] at h; cases h
  rw [if_pos hl] at h
  obtain ⟨p, hp, rfl⟩ := item_Of.each k a1 a2 l0_5 r h
  clear h
  have HR := Aside0.mk hr0_5
  have HP := Aside0.mk hp
  clear hr0_5 hp
  have HB := Aside0.mk (Below.refl w.heap.size w)
  go_enter Try.func26, Try.ntmps26
  go_wp2_with (fail)
  generalize hW : (((w.alloc (Obj.cells _ 43)).alloc (Obj.cells #[Value.int IntKind.i64 a1] 3)).alloc (Obj.cells #[Value.int IntKind.i64 a2] 3)) = W0
  obtain ⟨hA, hB, hC, HB0⟩ := item_Of.boxes3 _ _ _ _ _ _ _ _ hW
  clear hW hA
  have lB := blk_lt hB
  have lC := blk_lt hC
  have HB1 := Aside0.mk HB0
  have hsz := HB0.size
  clear HB0 HB
  have hR0 := Kd.C_below HR.out HB1.out
  refine (item_Of.pick_ (fun x => decide (p x = a1)) 49 #[Value.pointer (some ⟨w.heap.size + 1 + 1, 0, none⟩), Value.pointer (some ⟨w.heap.size + 1, 0, none⟩)] (item_Of.enters_ Try.prog Try.func49 (by kernel_rfl) rfl) A0_5 c0_5 l0_5 W0 hl hR0 hc0_5 ?hp).mono ?_
  case hp =>
    intro W x hx hb
    have hs := hb.size
    obtain ⟨x0, x1, x2, x3⟩ := x
    exact item_Of.clos k a1 a2 _ (w.heap.size + 1 + 1) (w.heap.size + 1) x0 x1 x2 x3 W (HP.out _ hx) (by omega) (by omega) ((blk_cell (blk_below hC hb) 0).trans rfl) ((blk_cell (blk_below hB hb) 0).trans rfl)
  rintro e w1 ⟨v, rfl, hR, hb⟩
  have hR1 := Aside0.mk (Kd.R_lower hR hsz)
  have HB2 := Aside0.mk (below_step HB1.out hb)
  clear hR hb hB hC lB lC hR0
  go_wp2
  go_ret
  exact ⟨v, rfl, hR1.out, HB2.out⟩
end Go.Proofs.Ytoogchgoiciggaa.Q

/- A region that draws its order, by an invariant: each operation once, whatever has come up ahead of it. -/
set_option linter.unusedVariables false
set_option linter.unusedSimpArgs false
namespace Go.Proofs.Ytoogchgoiciggaa.Inv
open Go Go.RowKit
section
variable {P : Program} {ops : Array Oper} {Q : Exit → Act → World → Prop}
/-- How many have not come up yet. -/
def left (L : Array Bool) : Nat := L.toList.countP (fun b => !b)
theorem left_set {L : Array Bool} {i : Nat} (h : L.getD i true = false) : left (L.setIfInBounds i true) + 1 = left L := by
  have hi : i < L.size := by
    rcases Nat.lt_or_ge i L.size with h' | h'
    · exact h'
    · simp [Array.getElem?_eq_none h'] at h
  have hv : L.toList[i]'(by simpa using hi) = false := by simpa [hi] using h
  unfold left
  rw [Array.toList_setIfInBounds, List.countP_set (by simpa using hi), hv]
  have hp : 0 < L.toList.countP (fun b => !b) := List.countP_pos_iff.2 ⟨false, by rw [← hv]; exact List.getElem_mem _, rfl⟩
  simp only [Bool.not_false, Bool.not_true, if_true, Bool.false_eq_true, if_false, Nat.add_zero]
  omega
theorem any_inv (Inv : Array Bool → Act → World → Prop) (hd : ∀ L a w, Inv L a w → Region.ready .any ops L = [] → Q .normal a w)
    (hs : ∀ L a w i, Inv L a w → i ∈ Region.ready .any ops L → wpOp P ops Q i (fun a' w' => Inv (L.setIfInBounds i true) a' w') a w) :
    ∀ fuel L a w, left L ≤ fuel → Inv L a w → wpAny P .any ops Q fuel L a w := by
  intro fuel
  induction fuel with
  | zero =>
    intro L a w hl hI
    have h0 : Region.ready .any ops L = [] := by
      cases hr : Region.ready .any ops L with
      | nil => rfl
      | cons i t =>
        have hm := (mem_ready.1 (show i ∈ Region.ready .any ops L by rw [hr]; simp)).1
        have := left_set hm
        omega
    exact ⟨h0, hd L a w hI h0⟩
  | succ fuel ih =>
    intro L a w hl hI
    refine ⟨hd L a w hI, fun i hi => ?_⟩
    have := left_set (mem_ready.1 hi).1
    exact wpOp_mono (fun a' w' h => ih _ a' w' (by omega) h) (hs L a w i hI hi)
theorem all_of_ready {n : Nat} (hn : ops.size = n + 1) (hback : ∀ (i : Nat) (o : Oper), ops[i]? = some o → ∀ e ∈ o.after, e.on < i) {L : Array Bool} (hL : L.size = n + 1) (h : Region.ready .any ops L = []) : ∀ j, j ≤ n → L.getD j false = true := by
  intro j
  induction j using Nat.strongRecOn with
  | _ j ih =>
    intro hj
    have ho : ops[j]? = some (ops[j]'(by omega)) := Array.getElem?_eq_getElem _
    by_cases c : L.getD j true = false
    · have : j ∈ Region.ready .any ops L := mem_ready.2 ⟨c, _, ho, fun e he _ => ih e.on (hback j _ ho e he) (by have := hback j _ ho e he; omega)⟩
      rw [h] at this
      cases this
    · have hlt : j < L.size := by omega
      simpa [hlt] using c
/-- Two acts that are the same but for the places of the region's own. -/
def Like (own : List Tmp) (a0 a : Act) : Prop := a.defers = a0.defers ∧ a.tmps.size = a0.tmps.size ∧ ∀ t, t ∉ own → a.tmps.getD t undef = a0.tmps.getD t undef
theorem Like.refl (own : List Tmp) (a : Act) : Like own a a := ⟨rfl, rfl, fun _ _ => rfl⟩
theorem Like.put {own : List Tmp} {a0 a : Act} (h : Like own a0 a) {N : Tmp} (hN : N ∈ own) (v : Value) : Like own a0 (a.put (some N) v) := by
  refine ⟨h.1, by simp [Act.put, h.2.1], fun t ht => ?_⟩
  have hne : N ≠ t := fun e => ht (e ▸ hN)
  rw [← h.2.2 t ht]
  simp [Act.put, Array.getElem?_setIfInBounds_ne hne]
theorem put_same (a : Act) (N : Tmp) (v : Value) (h : N < a.tmps.size) : (a.put (some N) v).tmps.getD N undef = v := by
  simp [Act.put, h]
theorem put_ne (a : Act) {N M : Tmp} (v : Value) (h : N ≠ M) : (a.put (some N) v).tmps.getD M undef = a.tmps.getD M undef := by
  simp [Act.put, Array.getElem?_setIfInBounds_ne h]
/-- THE LAW. All but the last operation leave a value in a place of their own, and may make memory; the last one waits for all. -/
theorem region_inv {id : Nat} {a0 : Act} {w0 : World} (hm : P.follows .mixedOrders = true) (n : Nat) (hn : ops.size = n + 1) (dst : Nat → Tmp) (own : List Tmp)
    (hdst : ∀ (i : Nat) (o : Oper), i < n → ops[i]? = some o → o.dst = some (dst i) ∧ Region.wanted o = fun _ => true) (hown : ∀ i, i < n → dst i ∈ own ∧ dst i < a0.tmps.size) (hinj : ∀ i j, i < n → j < n → dst i = dst j → i = j)
    (hback : ∀ (i : Nat) (o : Oper), ops[i]? = some o → ∀ e ∈ o.after, e.on < i) (hlast : ∀ o : Oper, ops[n]? = some o → ∀ j, j < n → ∃ e ∈ o.after, Region.binds .any e = true ∧ e.on = j)
    (Spec : Nat → Value → World → Prop) (S : World → Prop) (hS : S w0.drew)
    (hstay : ∀ i v W W', S W → Below W.heap.size W W' → Spec i v W → Spec i v W')
    (hstep : ∀ (i : Nat) (o : Oper), i < n → ops[i]? = some o → ∀ (a : Act) (W : World), S W → Like own a0 a → (∀ e ∈ o.after, Region.binds .any e = true → Spec e.on (a.tmps.getD (dst e.on) undef) W) →
      ∃ v W', (execOp a.eval o).run P W = .ok (.value v) W' ∧ S W' ∧ Below W.heap.size W W' ∧ Spec i v W')
    (hend : ∀ (a : Act) (W : World), S W → Like own a0 a → (∀ i, i < n → Spec i (a.tmps.getD (dst i) undef) W) → wpOp P ops Q n (fun a' w' => Q .normal a' w') a W) :
    (Code.region id ops true).wp P Q a0 w0 := by
  refine wp_region_any hm ?_
  refine any_inv (P := P) (ops := ops) (Q := Q) (fun L a W => L.size = n + 1 ∧ (L.getD n false = false → S W ∧ Like own a0 a ∧ ∀ i, i < n → L.getD i false = true → Spec i (a.tmps.getD (dst i) undef) W) ∧ (L.getD n false = true → Q .normal a W ∧ ∀ j, j < n → L.getD j false = true)) ?_ ?_ _ _ _ _ ?_ ?_
  · intro L a W hI hr
    exact (hI.2.2 (all_of_ready hn hback hI.1 hr n (Nat.le_refl _))).1
  · intro L a W i hI hi
    obtain ⟨h0, o, ho, hdeps⟩ := mem_ready.1 hi
    have hlt : i < n + 1 := by have := (Array.getElem?_eq_some_iff.1 ho).1; omega
    have hnl : L.getD n false = false := by
      cases hc : L.getD n false with
      | false => rfl
      | true =>
        have hall := (hI.2.2 hc).2
        have hil : i < L.size := by have := hI.1; omega
        have h0' : L.getD i false = false := by simpa [hil] using h0
        by_cases c : i = n
        · rw [c, hc] at h0'; cases h0'
        · rw [hall i (by omega)] at h0'; cases h0'
    obtain ⟨hSW, hLike, hSpec⟩ := hI.2.1 hnl
    by_cases c : i = n
    · subst c
      have hall : ∀ j, j < i → L.getD j false = true := fun j hj => by
        obtain ⟨e, he, hb, rfl⟩ := hlast o ho j hj
        exact hdeps e he hb
      have hE := hend a W hSW hLike (fun j hj => hSpec j hj (hall j hj))
      refine wpOp_mono (fun a' w' hq => ⟨by simp [hI.1], ?_, fun _ => ⟨hq, fun j hj => ?_⟩⟩) hE
      · intro hc
        have : i < L.size := by have := hI.1; omega
        simp [this] at hc
      · exact getD_set_true (hall j hj)
    · have hin : i < n := by omega
      obtain ⟨hd, hw⟩ := hdst i o hin ho
      obtain ⟨v, W', hrun, hS', hB, hv⟩ := hstep i o hin ho a W hSW hLike (fun e he hb => hSpec e.on (by have := hback i o ho e he; omega) (hdeps e he hb))
      unfold wpOp
      rw [ho]
      simp only [hw, if_true]
      left
      unfold Oper.wp
      rw [hrun]
      show _ ∧ _
      have hsz : dst i < a.tmps.size := by rw [hLike.2.1]; exact (hown i hin).2
      have hne : i ≠ n := c
      refine ⟨by simp [hI.1], fun _ => ⟨hS', by rw [hd]; exact hLike.put (hown i hin).1 v, ?_⟩, fun hc => ?_⟩
      · intro j hj hl
        by_cases cj : j = i
        · subst cj
          rw [hd, put_same a _ v hsz]
          exact hv
        · rw [hd, put_ne a v (fun e => cj (hinj i j hin hj e).symm)]
          have hl' : L.getD j false = true := by rw [getD_set_ne false (Ne.symm cj)] at hl; exact hl
          exact hstay j _ W W' hSW hB (hSpec j hj hl')
      · rw [getD_set_ne false hne, hnl] at hc
        cases hc
  · show left (Array.replicate ops.size false) ≤ ops.size
    unfold left
    exact Nat.le_trans (List.countP_le_length) (by simp)
  · refine ⟨by simp [hn], fun _ => ⟨hS, Like.refl _ _, fun i _ hl => ?_⟩, fun hc => ?_⟩
    · exfalso
      by_cases c : i < ops.size
      · simp [c] at hl
      · simp [c] at hl
    · exfalso
      simp [hn] at hc
/-- What is asked of the region's text, at once. -/
def okB (ops : Array Oper) (n : Nat) (ds : List Tmp) : Bool :=
  ops.size == n + 1 && ds.length == n && (List.range n).all (fun i => (List.range n).all fun j => i == j || ds[i]? != ds[j]?) &&
  (List.range n).all (fun i => match ops[i]? with | some o => o.dst == ds[i]? && o.guard.isNone | none => false) &&
  (List.range (n + 1)).all (fun i => match ops[i]? with | some o => o.after.all (fun e => decide (e.on < i)) | none => true) &&
  (match ops[n]? with | some o => (List.range n).all (fun j => o.after.any fun e => Region.binds .any e && e.on == j) | none => false)
theorem wanted_none {o : Oper} (h : o.guard.isNone = true) : Region.wanted o = fun _ => true := by
  funext y
  unfold Region.wanted
  cases hg : o.guard with
  | none => rfl
  | some g => rw [hg] at h; cases h
theorem region_ok {id : Nat} {a0 : Act} {w0 : World} (hm : P.follows .mixedOrders = true) (n : Nat) (ds : List Tmp) (hB : okB ops n ds = true) (hsz : ∀ N ∈ ds, N < a0.tmps.size)
    (Spec : Nat → Value → World → Prop) (S : World → Prop) (hS : S w0.drew)
    (hstay : ∀ i v W W', S W → Below W.heap.size W W' → Spec i v W → Spec i v W')
    (hstep : ∀ (i : Nat) (o : Oper), i < n → ops[i]? = some o → ∀ (a : Act) (W : World), S W → Like ds a0 a → (∀ e ∈ o.after, Region.binds .any e = true → Spec e.on (a.tmps.getD (ds.getD e.on 0) undef) W) →
      ∃ v W', (execOp a.eval o).run P W = .ok (.value v) W' ∧ S W' ∧ Below W.heap.size W W' ∧ Spec i v W')
    (hend : ∀ (a : Act) (W : World), S W → Like ds a0 a → (∀ i, i < n → Spec i (a.tmps.getD (ds.getD i 0) undef) W) → wpOp P ops Q n (fun a' w' => Q .normal a' w') a W) :
    (Code.region id ops true).wp P Q a0 w0 := by
  unfold okB at hB
  simp only [Bool.and_eq_true, beq_iff_eq, List.all_eq_true, List.mem_range, Bool.or_eq_true, bne_iff_ne, decide_eq_true_eq] at hB
  obtain ⟨⟨⟨⟨⟨h1, h2⟩, h3⟩, h4⟩, h5⟩, h6⟩ := hB
  have hget : ∀ i, i < n → ds[i]? = some (ds.getD i 0) := fun i hi => by
    rw [List.getD_eq_getElem?_getD, List.getElem?_eq_getElem (by omega)]
    rfl
  have hmem : ∀ i, i < n → ds.getD i 0 ∈ ds := fun i hi => List.mem_of_getElem? (hget i hi)
  refine region_inv hm n h1 (fun i => ds.getD i 0) ds ?_ (fun i hi => ⟨hmem i hi, hsz _ (hmem i hi)⟩) ?_ ?_ ?_ Spec S hS hstay hstep hend
  · intro i o hi ho
    have := h4 i hi
    rw [ho] at this
    simp only [Bool.and_eq_true, beq_iff_eq] at this
    exact ⟨this.1.trans (hget i hi), wanted_none this.2⟩
  · intro i j hi hj e
    rcases h3 i hi j hj with h | h
    · exact h
    · rw [hget i hi, hget j hj] at h
      exact absurd (congrArg some e) h
  · intro i o ho e he
    have hi : i < n + 1 := by have := (Array.getElem?_eq_some_iff.1 ho).1; omega
    have := h5 i hi
    rw [ho] at this
    simp only [Array.all_eq_true_iff_forall_mem, decide_eq_true_eq] at this
    exact this e he
  · intro o ho j hj
    rw [ho] at h6
    simp only [List.all_eq_true, List.mem_range] at h6
    have := h6 j hj
    obtain ⟨e, he, hb⟩ := Array.any_eq_true'.1 this
    simp only [Bool.and_eq_true, beq_iff_eq] at hb
    exact ⟨e, he, hb.1, hb.2⟩
theorem tmps_eq (a : Act) (n : Nat) (h : a.tmps.size = n) : a.tmps = ((List.range n).map fun t => a.tmps.getD t undef).toArray := by
  apply Array.ext
  · simp [h]
  · intro i h1 h2
    simp [h1]
end
end Go.Proofs.Ytoogchgoiciggaa.Inv

namespace Go.Proofs.Ytoogchgoiciggaa.Q
open Go.RowKit Go.Proofs.YtoogchgoiciggaaW.PrintWords Go.Proofs.YtoogchgoiciggaaW.PrintLast Go.Proofs.YtoogchgoiciggaaW.PrintMore
attribute [local go_sem] max2_int min2_int max_two min_two max_three min_three max_four min_four   -- for this text's walks alone
set_option linter.unusedVariables false
set_option linter.unusedSimpArgs false
/-! ### tenementlaw08_Put_write: function 12 -/
-- FOREIGN: a record is built of texts of bytes; the region that draws is told by an invariant
-- import Derived.Test.YtoogchgoiciggaaInv
def tenementlaw08_Put_write.f (a0 : ByteArray) (a1 : ByteArray) (a2 : ByteArray) (a3 : Bool) (a4 : Bool) (k : Int) : Option (ByteArray × ByteArray × ByteArray × Bool) := if a4 = true then (if a2.size ≤ 9223372036854775807 then (if 224 ≤ k then some ((strOfNums [98, (IntKind.u8.wrap (48 + Int.tmod k 2))]), (strOfNums [(IntKind.u8.wrap (97 + Int.tmod (IntKind.u8.wrap (Int.tdiv k 2)) 4))]), (⟨#[]⟩ : ByteArray), true) else some ((strOfNums [98, (IntKind.u8.wrap (48 + Int.tmod k 2))]), (strOfNums [(IntKind.u8.wrap (97 + Int.tmod (IntKind.u8.wrap (Int.tdiv k 2)) 4))]), (a2.extract 0 (min a2.size 8)), false)) else none) else some (a0, a1, a2, a3)
def tenementlaw08_Put_write.Sp (gb s0 : Nat) (a2 : ByteArray) (k : Int) : Nat → Value → World → Prop
  | 0, v, _ => v = .pointer (some ⟨gb, 5, none⟩)
  | 1, v, _ => v = .int .u8 k
  | 2, v, _ => v = .int .u8 (Int.tmod k 2)
  | 3, v, _ => v = .int .u8 (IntKind.u8.wrap (48 + Int.tmod k 2))
  | 4, v, W => ∃ b, v = .slice (some ⟨b, 0, none⟩) 2 2 ∧ s0 ≤ b ∧ W.heap[b]? = some (.cells #[.int .u8 98, .int .u8 (IntKind.u8.wrap (48 + Int.tmod k 2))] 5 (0, 0))
  | 5, v, _ => v = .string (strOfNums [98, (IntKind.u8.wrap (48 + Int.tmod k 2))])
  | 6, v, _ => v = .pointer (some ⟨gb, 5, none⟩)
  | 7, v, _ => v = .int .u8 k
  | 8, v, _ => v = .int .u8 (IntKind.u8.wrap (Int.tdiv k 2))
  | 9, v, _ => v = .int .u8 (Int.tmod (IntKind.u8.wrap (Int.tdiv k 2)) 4)
  | 10, v, _ => v = .int .u8 (IntKind.u8.wrap (97 + Int.tmod (IntKind.u8.wrap (Int.tdiv k 2)) 4))
  | 11, v, W => ∃ b, v = .slice (some ⟨b, 0, none⟩) 1 1 ∧ s0 ≤ b ∧ W.heap[b]? = some (.cells #[.int .u8 (IntKind.u8.wrap (97 + Int.tmod (IntKind.u8.wrap (Int.tdiv k 2)) 4))] 5 (0, 0))
  | 12, v, _ => v = .string (strOfNums [(IntKind.u8.wrap (97 + Int.tmod (IntKind.u8.wrap (Int.tdiv k 2)) 4))])
  | 13, v, _ => v = .pointer (some ⟨gb, 0, none⟩)
  | 14, v, _ => v = .pointer (some ⟨gb, 2, none⟩)
  | 15, v, _ => v = .string a2
  | 16, v, _ => v = .pointer (some ⟨gb, 0, none⟩)
  | 17, v, _ => v = .pointer (some ⟨gb, 2, none⟩)
  | 18, v, _ => v = .string a2
  | 19, v, _ => v = .int .i64 (a2.size : Int)
  | 20, v, _ => v = .int .i64 ((min a2.size 8 : Nat) : Int)
  | 21, v, _ => v = .string (a2.extract 0 (min a2.size 8))
  | 22, v, _ => v = .pointer (some ⟨gb, 5, none⟩)
  | 23, v, _ => v = .int .u8 k
  | 24, v, _ => v = .bool (decide (224 ≤ k))
  | 25, v, _ => v = .agg #[.string (strOfNums [98, (IntKind.u8.wrap (48 + Int.tmod k 2))]), .string (strOfNums [(IntKind.u8.wrap (97 + Int.tmod (IntKind.u8.wrap (Int.tdiv k 2)) 4))]), .string (a2.extract 0 (min a2.size 8)), .bool (decide (224 ≤ k))]
  | 26, v, W => ∃ b, v = .pointer (some ⟨b, 0, none⟩) ∧ s0 ≤ b ∧ W.heap[b]? = some (.cells #[.string ⟨#[]⟩, .string ⟨#[]⟩, .string ⟨#[]⟩, .bool false] 23 (0, 0))
  | _, _, _ => True
theorem tenementlaw08_Put_write.stay (gb s0 : Nat) (a2 : ByteArray) (k : Int) : ∀ (i : Nat) (v : Value) (W W' : World), Below W.heap.size W W' → tenementlaw08_Put_write.Sp gb s0 a2 k i v W → tenementlaw08_Put_write.Sp gb s0 a2 k i v W'
  | 0, v, W, W', hb, h => h
  | 1, v, W, W', hb, h => h
  | 2, v, W, W', hb, h => h
  | 3, v, W, W', hb, h => h
  | 4, v, W, W', hb, h => by obtain ⟨b, e, hs, h⟩ := h; exact ⟨b, e, hs, blk_below h hb⟩
  | 5, v, W, W', hb, h => h
  | 6, v, W, W', hb, h => h
  | 7, v, W, W', hb, h => h
  | 8, v, W, W', hb, h => h
  | 9, v, W, W', hb, h => h
  | 10, v, W, W', hb, h => h
  | 11, v, W, W', hb, h => by obtain ⟨b, e, hs, h⟩ := h; exact ⟨b, e, hs, blk_below h hb⟩
  | 12, v, W, W', hb, h => h
  | 13, v, W, W', hb, h => h
  | 14, v, W, W', hb, h => h
  | 15, v, W, W', hb, h => h
  | 16, v, W, W', hb, h => h
  | 17, v, W, W', hb, h => h
  | 18, v, W, W', hb, h => h
  | 19, v, W, W', hb, h => h
  | 20, v, W, W', hb, h => h
  | 21, v, W, W', hb, h => h
  | 22, v, W, W', hb, h => h
  | 23, v, W, W', hb, h => h
  | 24, v, W, W', hb, h => h
  | 25, v, W, W', hb, h => h
  | 26, v, W, W', hb, h => by obtain ⟨b, e, hs, h⟩ := h; exact ⟨b, e, hs, blk_below h hb⟩
  | _ + 27, v, W, W', hb, h => trivial
theorem tenementlaw08_Put_write.boxes2 (w : World) (xs ys : Array Value) (t1 t2 : TypeId) (W : World) (h : (w.alloc (.cells xs t1)).alloc (.cells ys t2) = W) :
    W.heap[w.heap.size]? = some (.cells xs t1 (0,0)) ∧ W.heap[w.heap.size+1]? = some (.cells ys t2 (0,0)) ∧ Below w.heap.size w W := by
  subst h
  have s1 : (w.alloc (.cells xs t1)).heap.size = w.heap.size + 1 := by simp [World.alloc, -World.alloc_eq]
  refine ⟨blk_alloc (blk_new _ _) _, ?_, below_alloc (below_alloc (Below.refl _ _) _) _⟩
  rw [← s1]; exact blk_new _ _
def tenementlaw08_Put_write.St (w : World) (gb s0 : Nat) (cs : Array Value) (W : World) : Prop := W.heap[gb]? = some (.cells cs 25 (0, 0)) ∧ W.heap[gb + 1]? = some (.cells #[.string ⟨#[]⟩, .string ⟨#[]⟩, .string ⟨#[]⟩, .bool false] 23 (0, 0)) ∧ Below w.heap.size w W ∧ s0 ≤ W.heap.size
theorem tenementlaw08_Put_write.st_alloc {w : World} {gb s0 : Nat} {cs : Array Value} {W : World} (h : tenementlaw08_Put_write.St w gb s0 cs W) (o : Obj) : tenementlaw08_Put_write.St w gb s0 cs (W.alloc o) :=
  ⟨blk_alloc h.1 o, blk_alloc h.2.1 o, below_alloc h.2.2.1 o, Nat.le_trans h.2.2.2 (by simp [World.alloc, -World.alloc_eq])⟩
theorem tenementlaw08_Put_write.alloc_below (W : World) (o : Obj) : Below W.heap.size W (W.alloc o) := below_alloc (Below.refl _ _) o
theorem tenementlaw08_Put_write.op_some {P : Program} {ops : Array Oper} {Q : Exit → Act → World → Prop} {i : Nat} {o : Oper} {K : Act → World → Prop} {a : Act} {w : World} (hi : ops[i]? = some o) (hg : o.guard.isNone = true) (h : o.wp P a w K Q) : wpOp P ops Q i K a w := by
  unfold wpOp
  rw [hi]
  simp only [Go.Proofs.Ytoogchgoiciggaa.Inv.wanted_none hg, if_true]
  exact .inl h
set_option maxHeartbeats 8000000 in
set_option maxRecDepth 100000 in
theorem tenementlaw08_Put_write.calls (a0 : ByteArray) (a1 : ByteArray) (a2 : ByteArray) (a3 : Bool) (a4 : Bool) (k : Int) (r1 r2 r3 : ByteArray) (r4 : Bool) (w : World) (h : tenementlaw08_Put_write.f a0 a1 a2 a3 a4 k = some (r1, r2, r3, r4)) :
    Calls Try.prog 12 #[.agg #[.string a0, .string a1, .string a2, .bool a3, .bool a4, .int .u8 k]] w fun e w' => e = .returned (.agg #[.string r1, .string r2, .string r3, .bool r4]) ∧ Below w.heap.size w w' := by
  have hu23 := Try.underlying23
  unfold tenementlaw08_Put_write.f at h
  cases a4 with
  | false =>
    rw [if_neg (by simp)] at h
    simp only [Option.some.injEq, Prod.mk.injEq] at h
    obtain ⟨rfl, rfl, rfl, rfl⟩ := h
    go_enter Try.func12, Try.ntmps12
    go_wp2
    obtain ⟨hA, hB, HB1⟩ := tenementlaw08_Put_write.boxes2 w #[.string a0, .string a1, .string a2, .bool a3, .bool false, .int .u8 k] #[.string a0, .string a1, .string a2, .bool a3] 25 23 _ rfl
    generalize ((w.alloc (Obj.cells #[.string a0, .string a1, .string a2, .bool a3, .bool false, .int .u8 k] 25)).alloc (Obj.cells #[.string a0, .string a1, .string a2, .bool a3] 23)) = W0 at *
    obtain ⟨f0, f1, f2, f3⟩ := Kc4_ hB
    exact bodyPost_ret (v := .agg #[.string a0, .string a1, .string a2, .bool a3]) (by simp [results, Try.results12, go_sem, hu23, f0, f1, f2, f3]) rfl ⟨rfl, HB1⟩
  | true =>
    rw [if_pos rfl] at h
    by_cases hz : a2.size ≤ 9223372036854775807
    rotate_left
    · rw [if_neg hz] at h; cases h
    rw [if_pos hz] at h
    have HH := Aside0.mk h
    clear h
    go_enter Try.func12, Try.ntmps12
    go_wp2
    obtain ⟨hA, hB, HB1⟩ := tenementlaw08_Put_write.boxes2 w #[.string a0, .string a1, .string a2, .bool a3, .bool true, .int .u8 k] #[.string ⟨#[]⟩, .string ⟨#[]⟩, .string ⟨#[]⟩, .bool false] 25 23 _ rfl
    generalize ((w.alloc (Obj.cells #[.string a0, .string a1, .string a2, .bool a3, .bool true, .int .u8 k] 25)).alloc (Obj.cells #[.string ⟨#[]⟩, .string ⟨#[]⟩, .string ⟨#[]⟩, .bool false] 23)) = W0 at *
    have HB := Aside0.mk HB1
    have hlt : w.heap.size + 1 < W0.heap.size := blk_lt hB
    have hst : tenementlaw08_Put_write.St w w.heap.size W0.heap.size #[.string a0, .string a1, .string a2, .bool a3, .bool true, .int .u8 k] W0.drew := ⟨hA, hB, below_drew1 HB1, Nat.le_refl _⟩
    clear hA hB HB1
    have hmm : (if 8 < (a2.size : Int) then 8 else (a2.size : Int)) = ((min a2.size 8 : Nat) : Int) := by split <;> omega
    have m0 : (0 : Int) ≤ ((min a2.size 8 : Nat) : Int) := by omega
    have m1 : ((min a2.size 8 : Nat) : Int) ≤ (a2.size : Int) := by omega
    obtain ⟨gb, hgb⟩ : ∃ gb, gb = w.heap.size := ⟨_, rfl⟩
    obtain ⟨s0, hs0⟩ : ∃ s0, s0 = W0.heap.size := ⟨_, rfl⟩
    rw [← hgb, ← hs0] at hst
    rw [← hgb]
    refine Go.Proofs.Ytoogchgoiciggaa.Inv.region_ok (by kernel_rfl) 27 [9, 10, 11, 12, 13, 14, 15, 16, 17, 18, 19, 20, 21, 22, 23, 24, 25, 26, 27, 28, 29, 30, 31, 32, 33, 34, 3] (by kernel_rfl) (fun N hN => (show N < 39 from (by decide : ∀ N ∈ ([9, 10, 11, 12, 13, 14, 15, 16, 17, 18, 19, 20, 21, 22, 23, 24, 25, 26, 27, 28, 29, 30, 31, 32, 33, 34, 3] : List Nat), N < 39) N hN)) (tenementlaw08_Put_write.Sp gb s0 a2 k) (tenementlaw08_Put_write.St w gb s0 #[.string a0, .string a1, .string a2, .bool a3, .bool true, .int .u8 k]) hst (fun i v W W' _ hb h => tenementlaw08_Put_write.stay gb s0 a2 k i v W W' hb h) ?hstep ?hend
    case hstep =>
      clear HH
      intro i o hi ho a W hS hL hd
      have q1 : a.tmps.getD 1 undef = .pointer (some ⟨gb, 0, none⟩) := hL.2.2 1 (by decide)
      obtain ⟨c0, c1, c2, c3, c4, c5, z0, z1, z2, z3, z4, z5⟩ := Ke6_ hS.1
      clear hL hgb hs0 hlt hst
      match i, hi, ho, hd with
      | 0, _, ho, hd =>
        obtain rfl := Option.some.inj ho
        clear hd ho
        refine ⟨.pointer (some ⟨gb, 5, none⟩), W, ?_, hS, Below.refl _ _, rfl⟩
        first | (go_simp; done) | (simp only [execOp, Act.eval, q1]; go_simp; done) | (simp only [execOp, Act.eval, q1]; go_simp; rfl) 
      | 1, _, ho, hd =>
        obtain rfl := Option.some.inj ho
        have d0 : a.tmps.getD 9 undef = .pointer (some ⟨gb, 5, none⟩) := hd ⟨0, .data⟩ (by simp) rfl
        clear hd ho
        refine ⟨.int .u8 k, W, ?_, hS, Below.refl _ _, rfl⟩
        first | (go_simp; done) | (simp only [execOp, Act.eval, q1, d0]; go_simp; done) | (simp only [execOp, Act.eval, q1, d0]; go_simp; rfl) 
      | 2, _, ho, hd =>
        obtain rfl := Option.some.inj ho
        have d1 : a.tmps.getD 10 undef = .int .u8 k := hd ⟨1, .data⟩ (by simp) rfl
        clear hd ho
        refine ⟨.int .u8 (Int.tmod k 2), W, ?_, hS, Below.refl _ _, rfl⟩
        first | (go_simp; done) | (simp only [execOp, Act.eval, q1, d1]; go_simp; done) | (simp only [execOp, Act.eval, q1, d1]; go_simp; rfl) 
      | 3, _, ho, hd =>
        obtain rfl := Option.some.inj ho
        have d2 : a.tmps.getD 11 undef = .int .u8 (Int.tmod k 2) := hd ⟨2, .data⟩ (by simp) rfl
        clear hd ho
        refine ⟨.int .u8 (IntKind.u8.wrap (48 + Int.tmod k 2)), W, ?_, hS, Below.refl _ _, rfl⟩
        first | (go_simp; done) | (simp only [execOp, Act.eval, q1, d2]; go_simp; done) | (simp only [execOp, Act.eval, q1, d2]; go_simp; rfl) 
      | 4, _, ho, hd =>
        obtain rfl := Option.some.inj ho
        have d3 : a.tmps.getD 12 undef = .int .u8 (IntKind.u8.wrap (48 + Int.tmod k 2)) := hd ⟨3, .data⟩ (by simp) rfl
        clear hd ho
        refine ⟨.slice (some ⟨W.heap.size, 0, none⟩) 2 2, W.alloc (.cells #[.int .u8 98, .int .u8 (IntKind.u8.wrap (48 + Int.tmod k 2))] 5), ?_, tenementlaw08_Put_write.st_alloc hS _, tenementlaw08_Put_write.alloc_below W _, ⟨_, rfl, hS.2.2.2, blk_new _ _⟩⟩
        have g3 := (Array.getD_eq_getD_getElem? (xs := a.tmps) (i := 12) (d := undef)).symm.trans d3
        go_simp
      | 5, _, ho, hd =>
        obtain rfl := Option.some.inj ho
        obtain ⟨b, d4, hsb, hbk⟩ : tenementlaw08_Put_write.Sp gb s0 a2 k 4 (a.tmps.getD 13 undef) W := hd ⟨4, .data⟩ (by simp) rfl
        clear hd ho
        refine ⟨.string (strOfNums [98, (IntKind.u8.wrap (48 + Int.tmod k 2))]), W, ?_, hS, Below.refl _ _, rfl⟩
        have hcv := run_convert_bytes_arg (P := Try.prog) W 76 5 Try.underlying76 Try.underlying5 b 0 2 2 [98, (IntKind.u8.wrap (48 + Int.tmod k 2))] rfl (fun j hj => by
          have hj2 : j = 0 ∨ j = 1 := by omega
          rcases hj2 with rfl | rfl
          · exact (blk_cell hbk 0).trans rfl
          · exact (blk_cell hbk 1).trans rfl) 9 Try.underlying9
        first | (go_simp; done) | (simp only [execOp, Act.eval, q1, d4]; go_simp; done) | (simp only [execOp, Act.eval, q1, d4]; go_simp; rfl) 
      | 6, _, ho, hd =>
        obtain rfl := Option.some.inj ho
        clear hd ho
        refine ⟨.pointer (some ⟨gb, 5, none⟩), W, ?_, hS, Below.refl _ _, rfl⟩
        first | (go_simp; done) | (simp only [execOp, Act.eval, q1]; go_simp; done) | (simp only [execOp, Act.eval, q1]; go_simp; rfl) 
      | 7, _, ho, hd =>
        obtain rfl := Option.some.inj ho
        have d6 : a.tmps.getD 15 undef = .pointer (some ⟨gb, 5, none⟩) := hd ⟨6, .data⟩ (by simp) rfl
        clear hd ho
        refine ⟨.int .u8 k, W, ?_, hS, Below.refl _ _, rfl⟩
        first | (go_simp; done) | (simp only [execOp, Act.eval, q1, d6]; go_simp; done) | (simp only [execOp, Act.eval, q1, d6]; go_simp; rfl) 
      | 8, _, ho, hd =>
        obtain rfl := Option.some.inj ho
        have d7 : a.tmps.getD 16 undef = .int .u8 k := hd ⟨7, .data⟩ (by simp) rfl
        clear hd ho
        refine ⟨.int .u8 (IntKind.u8.wrap (Int.tdiv k 2)), W, ?_, hS, Below.refl _ _, rfl⟩
        first | (go_simp; done) | (simp only [execOp, Act.eval, q1, d7]; go_simp; done) | (simp only [execOp, Act.eval, q1, d7]; go_simp; rfl) 
      | 9, _, ho, hd =>
        obtain rfl := Option.some.inj ho
        have d8 : a.tmps.getD 17 undef = .int .u8 (IntKind.u8.wrap (Int.tdiv k 2)) := hd ⟨8, .data⟩ (by simp) rfl
        clear hd ho
        refine ⟨.int .u8 (Int.tmod (IntKind.u8.wrap (Int.tdiv k 2)) 4), W, ?_, hS, Below.refl _ _, rfl⟩
        first | (go_simp; done) | (simp only [execOp, Act.eval, q1, d8]; go_simp; done) | (simp only [execOp, Act.eval, q1, d8]; go_simp; rfl) 
      | 10, _, ho, hd =>
        obtain rfl := Option.some.inj ho
        have d9 : a.tmps.getD 18 undef = .int .u8 (Int.tmod (IntKind.u8.wrap (Int.tdiv k 2)) 4) := hd ⟨9, .data⟩ (by simp) rfl
        clear hd ho
        refine ⟨.int .u8 (IntKind.u8.wrap (97 + Int.tmod (IntKind.u8.wrap (Int.tdiv k 2)) 4)), W, ?_, hS, Below.refl _ _, rfl⟩
        first | (go_simp; done) | (simp only [execOp, Act.eval, q1, d9]; go_simp; done) | (simp only [execOp, Act.eval, q1, d9]; go_simp; rfl) 
      | 11, _, ho, hd =>
        obtain rfl := Option.some.inj ho
        have d10 : a.tmps.getD 19 undef = .int .u8 (IntKind.u8.wrap (97 + Int.tmod (IntKind.u8.wrap (Int.tdiv k 2)) 4)) := hd ⟨10, .data⟩ (by simp) rfl
        clear hd ho
        refine ⟨.slice (some ⟨W.heap.size, 0, none⟩) 1 1, W.alloc (.cells #[.int .u8 (IntKind.u8.wrap (97 + Int.tmod (IntKind.u8.wrap (Int.tdiv k 2)) 4))] 5), ?_, tenementlaw08_Put_write.st_alloc hS _, tenementlaw08_Put_write.alloc_below W _, ⟨_, rfl, hS.2.2.2, blk_new _ _⟩⟩
        have g10 := (Array.getD_eq_getD_getElem? (xs := a.tmps) (i := 19) (d := undef)).symm.trans d10
        go_simp
      | 12, _, ho, hd =>
        obtain rfl := Option.some.inj ho
        obtain ⟨b, d11, hsb, hbk⟩ : tenementlaw08_Put_write.Sp gb s0 a2 k 11 (a.tmps.getD 20 undef) W := hd ⟨11, .data⟩ (by simp) rfl
        clear hd ho
        refine ⟨.string (strOfNums [(IntKind.u8.wrap (97 + Int.tmod (IntKind.u8.wrap (Int.tdiv k 2)) 4))]), W, ?_, hS, Below.refl _ _, rfl⟩
        have hcv := run_convert_bytes_arg (P := Try.prog) W 76 5 Try.underlying76 Try.underlying5 b 0 1 1 [(IntKind.u8.wrap (97 + Int.tmod (IntKind.u8.wrap (Int.tdiv k 2)) 4))] rfl (fun j hj => by
          have hj2 : j = 0 := by omega
          rcases hj2 with rfl
          exact (blk_cell hbk 0).trans rfl) 9 Try.underlying9
        first | (go_simp; done) | (simp only [execOp, Act.eval, q1, d11]; go_simp; done) | (simp only [execOp, Act.eval, q1, d11]; go_simp; rfl) 
      | 13, _, ho, hd =>
        obtain rfl := Option.some.inj ho
        clear hd ho
        refine ⟨.pointer (some ⟨gb, 0, none⟩), W, ?_, hS, Below.refl _ _, rfl⟩
        first | (go_simp; done) | (simp only [execOp, Act.eval, q1]; go_simp; done) | (simp only [execOp, Act.eval, q1]; go_simp; rfl) 
      | 14, _, ho, hd =>
        obtain rfl := Option.some.inj ho
        have d13 : a.tmps.getD 22 undef = .pointer (some ⟨gb, 0, none⟩) := hd ⟨13, .data⟩ (by simp) rfl
        clear hd ho
        refine ⟨.pointer (some ⟨gb, 2, none⟩), W, ?_, hS, Below.refl _ _, rfl⟩
        first | (go_simp; done) | (simp only [execOp, Act.eval, q1, d13]; go_simp; done) | (simp only [execOp, Act.eval, q1, d13]; go_simp; rfl) 
      | 15, _, ho, hd =>
        obtain rfl := Option.some.inj ho
        have d14 : a.tmps.getD 23 undef = .pointer (some ⟨gb, 2, none⟩) := hd ⟨14, .data⟩ (by simp) rfl
        clear hd ho
        refine ⟨.string a2, W, ?_, hS, Below.refl _ _, rfl⟩
        first | (go_simp; done) | (simp only [execOp, Act.eval, q1, d14]; go_simp; done) | (simp only [execOp, Act.eval, q1, d14]; go_simp; rfl) 
      | 16, _, ho, hd =>
        obtain rfl := Option.some.inj ho
        clear hd ho
        refine ⟨.pointer (some ⟨gb, 0, none⟩), W, ?_, hS, Below.refl _ _, rfl⟩
        first | (go_simp; done) | (simp only [execOp, Act.eval, q1]; go_simp; done) | (simp only [execOp, Act.eval, q1]; go_simp; rfl) 
      | 17, _, ho, hd =>
        obtain rfl := Option.some.inj ho
        have d16 : a.tmps.getD 25 undef = .pointer (some ⟨gb, 0, none⟩) := hd ⟨16, .data⟩ (by simp) rfl
        clear hd ho
        refine ⟨.pointer (some ⟨gb, 2, none⟩), W, ?_, hS, Below.refl _ _, rfl⟩
        first | (go_simp; done) | (simp only [execOp, Act.eval, q1, d16]; go_simp; done) | (simp only [execOp, Act.eval, q1, d16]; go_simp; rfl) 
      | 18, _, ho, hd =>
        obtain rfl := Option.some.inj ho
        have d17 : a.tmps.getD 26 undef = .pointer (some ⟨gb, 2, none⟩) := hd ⟨17, .data⟩ (by simp) rfl
        clear hd ho
        refine ⟨.string a2, W, ?_, hS, Below.refl _ _, rfl⟩
        first | (go_simp; done) | (simp only [execOp, Act.eval, q1, d17]; go_simp; done) | (simp only [execOp, Act.eval, q1, d17]; go_simp; rfl) 
      | 19, _, ho, hd =>
        obtain rfl := Option.some.inj ho
        have d18 : a.tmps.getD 27 undef = .string a2 := hd ⟨18, .data⟩ (by simp) rfl
        clear hd ho
        refine ⟨.int .i64 (a2.size : Int), W, ?_, hS, Below.refl _ _, rfl⟩
        first | (go_simp; done) | (simp only [execOp, Act.eval, q1, d18]; go_simp; done) | (simp only [execOp, Act.eval, q1, d18]; go_simp; rfl) 
      | 20, _, ho, hd =>
        obtain rfl := Option.some.inj ho
        have d19 : a.tmps.getD 28 undef = .int .i64 (a2.size : Int) := hd ⟨19, .data⟩ (by simp) rfl
        clear hd ho
        refine ⟨.int .i64 ((min a2.size 8 : Nat) : Int), W, ?_, hS, Below.refl _ _, rfl⟩
        first | (go_simp; done) | (simp only [execOp, Act.eval, q1, d19]; go_simp; done) | (simp only [execOp, Act.eval, q1, d19]; go_simp; rfl) 
      | 21, _, ho, hd =>
        obtain rfl := Option.some.inj ho
        have d15 : a.tmps.getD 24 undef = .string a2 := hd ⟨15, .data⟩ (by simp) rfl
        have d20 : a.tmps.getD 29 undef = .int .i64 ((min a2.size 8 : Nat) : Int) := hd ⟨20, .data⟩ (by simp) rfl
        clear hd ho
        refine ⟨.string (a2.extract 0 (min a2.size 8)), W, ?_, hS, Below.refl _ _, rfl⟩
        first | (go_simp; done) | (simp only [execOp, Act.eval, q1, d15, d20]; go_simp; done) | (simp only [execOp, Act.eval, q1, d15, d20]; go_simp; rfl) 
      | 22, _, ho, hd =>
        obtain rfl := Option.some.inj ho
        clear hd ho
        refine ⟨.pointer (some ⟨gb, 5, none⟩), W, ?_, hS, Below.refl _ _, rfl⟩
        first | (go_simp; done) | (simp only [execOp, Act.eval, q1]; go_simp; done) | (simp only [execOp, Act.eval, q1]; go_simp; rfl) 
      | 23, _, ho, hd =>
        obtain rfl := Option.some.inj ho
        have d22 : a.tmps.getD 31 undef = .pointer (some ⟨gb, 5, none⟩) := hd ⟨22, .data⟩ (by simp) rfl
        clear hd ho
        refine ⟨.int .u8 k, W, ?_, hS, Below.refl _ _, rfl⟩
        first | (go_simp; done) | (simp only [execOp, Act.eval, q1, d22]; go_simp; done) | (simp only [execOp, Act.eval, q1, d22]; go_simp; rfl) 
      | 24, _, ho, hd =>
        obtain rfl := Option.some.inj ho
        have d23 : a.tmps.getD 32 undef = .int .u8 k := hd ⟨23, .data⟩ (by simp) rfl
        clear hd ho
        refine ⟨.bool (decide (224 ≤ k)), W, ?_, hS, Below.refl _ _, rfl⟩
        first | (go_simp; done) | (simp only [execOp, Act.eval, q1, d23]; go_simp; done) | (simp only [execOp, Act.eval, q1, d23]; go_simp; rfl) 
      | 25, _, ho, hd =>
        obtain rfl := Option.some.inj ho
        have d5 : a.tmps.getD 14 undef = .string (strOfNums [98, (IntKind.u8.wrap (48 + Int.tmod k 2))]) := hd ⟨5, .data⟩ (by simp) rfl
        have d12 : a.tmps.getD 21 undef = .string (strOfNums [(IntKind.u8.wrap (97 + Int.tmod (IntKind.u8.wrap (Int.tdiv k 2)) 4))]) := hd ⟨12, .data⟩ (by simp) rfl
        have d21 : a.tmps.getD 30 undef = .string (a2.extract 0 (min a2.size 8)) := hd ⟨21, .data⟩ (by simp) rfl
        have d24 : a.tmps.getD 33 undef = .bool (decide (224 ≤ k)) := hd ⟨24, .data⟩ (by simp) rfl
        clear hd ho
        refine ⟨.agg #[.string (strOfNums [98, (IntKind.u8.wrap (48 + Int.tmod k 2))]), .string (strOfNums [(IntKind.u8.wrap (97 + Int.tmod (IntKind.u8.wrap (Int.tdiv k 2)) 4))]), .string (a2.extract 0 (min a2.size 8)), .bool (decide (224 ≤ k))], W, ?_, hS, Below.refl _ _, rfl⟩
        have g5 := (Array.getD_eq_getD_getElem? (xs := a.tmps) (i := 14) (d := undef)).symm.trans d5
        have g12 := (Array.getD_eq_getD_getElem? (xs := a.tmps) (i := 21) (d := undef)).symm.trans d12
        have g21 := (Array.getD_eq_getD_getElem? (xs := a.tmps) (i := 30) (d := undef)).symm.trans d21
        have g24 := (Array.getD_eq_getD_getElem? (xs := a.tmps) (i := 33) (d := undef)).symm.trans d24
        go_simp
      | 26, _, ho, hd =>
        obtain rfl := Option.some.inj ho
        clear hd ho
        refine ⟨.pointer (some ⟨W.heap.size, 0, none⟩), W.alloc (.cells #[.string ⟨#[]⟩, .string ⟨#[]⟩, .string ⟨#[]⟩, .bool false] 23), ?_, tenementlaw08_Put_write.st_alloc hS _, tenementlaw08_Put_write.alloc_below W _, ⟨_, rfl, hS.2.2.2, blk_new _ _⟩⟩
        first | (go_simp; done) | (simp only [execOp, Act.eval, q1]; go_simp; done) | (simp only [execOp, Act.eval, q1]; go_simp; rfl) 
      | _ + 27, hi, _, _ => omega
    case hend =>
      intro a W hS hL hA
      have q0 : a.tmps.getD 0 undef = .agg #[.string a0, .string a1, .string a2, .bool a3, .bool true, .int .u8 k] := hL.2.2 0 (by decide)
      have q1 : a.tmps.getD 1 undef = .pointer (some ⟨gb, 0, none⟩) := hL.2.2 1 (by decide)
      have q2 : a.tmps.getD 2 undef = .pointer (some ⟨gb + 1, 0, none⟩) := hL.2.2 2 (by decide)
      have q4 : a.tmps.getD 4 undef = .pointer (some ⟨gb, 4, none⟩) := hL.2.2 4 (by decide)
      have q5 : a.tmps.getD 5 undef = .bool true := hL.2.2 5 (by decide)
      have q6 : a.tmps.getD 6 undef = .bool false := hL.2.2 6 (by decide)
      have q7 : a.tmps.getD 7 undef = undef := hL.2.2 7 (by decide)
      have q8 : a.tmps.getD 8 undef = undef := hL.2.2 8 (by decide)
      have q35 : a.tmps.getD 35 undef = undef := hL.2.2 35 (by decide)
      have q36 : a.tmps.getD 36 undef = undef := hL.2.2 36 (by decide)
      have q37 : a.tmps.getD 37 undef = undef := hL.2.2 37 (by decide)
      have q38 : a.tmps.getD 38 undef = undef := hL.2.2 38 (by decide)
      have q9 : a.tmps.getD 9 undef = .pointer (some ⟨gb, 5, none⟩) := hA 0 (by decide)
      have q10 : a.tmps.getD 10 undef = .int .u8 k := hA 1 (by decide)
      have q11 : a.tmps.getD 11 undef = .int .u8 (Int.tmod k 2) := hA 2 (by decide)
      have q12 : a.tmps.getD 12 undef = .int .u8 (IntKind.u8.wrap (48 + Int.tmod k 2)) := hA 3 (by decide)
      obtain ⟨b13, q13, s13, k13⟩ : tenementlaw08_Put_write.Sp gb s0 a2 k 4 (a.tmps.getD 13 undef) W := hA 4 (by decide)
      have q14 : a.tmps.getD 14 undef = .string (strOfNums [98, (IntKind.u8.wrap (48 + Int.tmod k 2))]) := hA 5 (by decide)
      have q15 : a.tmps.getD 15 undef = .pointer (some ⟨gb, 5, none⟩) := hA 6 (by decide)
      have q16 : a.tmps.getD 16 undef = .int .u8 k := hA 7 (by decide)
      have q17 : a.tmps.getD 17 undef = .int .u8 (IntKind.u8.wrap (Int.tdiv k 2)) := hA 8 (by decide)
      have q18 : a.tmps.getD 18 undef = .int .u8 (Int.tmod (IntKind.u8.wrap (Int.tdiv k 2)) 4) := hA 9 (by decide)
      have q19 : a.tmps.getD 19 undef = .int .u8 (IntKind.u8.wrap (97 + Int.tmod (IntKind.u8.wrap (Int.tdiv k 2)) 4)) := hA 10 (by decide)
      obtain ⟨b20, q20, s20, k20⟩ : tenementlaw08_Put_write.Sp gb s0 a2 k 11 (a.tmps.getD 20 undef) W := hA 11 (by decide)
      have q21 : a.tmps.getD 21 undef = .string (strOfNums [(IntKind.u8.wrap (97 + Int.tmod (IntKind.u8.wrap (Int.tdiv k 2)) 4))]) := hA 12 (by decide)
      have q22 : a.tmps.getD 22 undef = .pointer (some ⟨gb, 0, none⟩) := hA 13 (by decide)
      have q23 : a.tmps.getD 23 undef = .pointer (some ⟨gb, 2, none⟩) := hA 14 (by decide)
      have q24 : a.tmps.getD 24 undef = .string a2 := hA 15 (by decide)
      have q25 : a.tmps.getD 25 undef = .pointer (some ⟨gb, 0, none⟩) := hA 16 (by decide)
      have q26 : a.tmps.getD 26 undef = .pointer (some ⟨gb, 2, none⟩) := hA 17 (by decide)
      have q27 : a.tmps.getD 27 undef = .string a2 := hA 18 (by decide)
      have q28 : a.tmps.getD 28 undef = .int .i64 (a2.size : Int) := hA 19 (by decide)
      have q29 : a.tmps.getD 29 undef = .int .i64 ((min a2.size 8 : Nat) : Int) := hA 20 (by decide)
      have q30 : a.tmps.getD 30 undef = .string (a2.extract 0 (min a2.size 8)) := hA 21 (by decide)
      have q31 : a.tmps.getD 31 undef = .pointer (some ⟨gb, 5, none⟩) := hA 22 (by decide)
      have q32 : a.tmps.getD 32 undef = .int .u8 k := hA 23 (by decide)
      have q33 : a.tmps.getD 33 undef = .bool (decide (224 ≤ k)) := hA 24 (by decide)
      have q34 : a.tmps.getD 34 undef = .agg #[.string (strOfNums [98, (IntKind.u8.wrap (48 + Int.tmod k 2))]), .string (strOfNums [(IntKind.u8.wrap (97 + Int.tmod (IntKind.u8.wrap (Int.tdiv k 2)) 4))]), .string (a2.extract 0 (min a2.size 8)), .bool (decide (224 ≤ k))] := hA 25 (by decide)
      obtain ⟨b3, q3, s3, k3⟩ : tenementlaw08_Put_write.Sp gb s0 a2 k 26 (a.tmps.getD 3 undef) W := hA 26 (by decide)
      have ht : a.tmps = #[.agg #[.string a0, .string a1, .string a2, .bool a3, .bool true, .int .u8 k], .pointer (some ⟨gb, 0, none⟩), .pointer (some ⟨gb + 1, 0, none⟩), .pointer (some ⟨b3, 0, none⟩), .pointer (some ⟨gb, 4, none⟩), .bool true, .bool false, undef, undef, .pointer (some ⟨gb, 5, none⟩), .int .u8 k, .int .u8 (Int.tmod k 2), .int .u8 (IntKind.u8.wrap (48 + Int.tmod k 2)), .slice (some ⟨b13, 0, none⟩) 2 2, .string (strOfNums [98, (IntKind.u8.wrap (48 + Int.tmod k 2))]), .pointer (some ⟨gb, 5, none⟩), .int .u8 k, .int .u8 (IntKind.u8.wrap (Int.tdiv k 2)), .int .u8 (Int.tmod (IntKind.u8.wrap (Int.tdiv k 2)) 4), .int .u8 (IntKind.u8.wrap (97 + Int.tmod (IntKind.u8.wrap (Int.tdiv k 2)) 4)), .slice (some ⟨b20, 0, none⟩) 1 1, .string (strOfNums [(IntKind.u8.wrap (97 + Int.tmod (IntKind.u8.wrap (Int.tdiv k 2)) 4))]), .pointer (some ⟨gb, 0, none⟩), .pointer (some ⟨gb, 2, none⟩), .string a2, .pointer (some ⟨gb, 0, none⟩), .pointer (some ⟨gb, 2, none⟩), .string a2, .int .i64 (a2.size : Int), .int .i64 ((min a2.size 8 : Nat) : Int), .string (a2.extract 0 (min a2.size 8)), .pointer (some ⟨gb, 5, none⟩), .int .u8 k, .bool (decide (224 ≤ k)), .agg #[.string (strOfNums [98, (IntKind.u8.wrap (48 + Int.tmod k 2))]), .string (strOfNums [(IntKind.u8.wrap (97 + Int.tmod (IntKind.u8.wrap (Int.tdiv k 2)) 4))]), .string (a2.extract 0 (min a2.size 8)), .bool (decide (224 ≤ k))], undef, undef, undef, undef] := by
        rw [Go.Proofs.Ytoogchgoiciggaa.Inv.tmps_eq a 39 hL.2.1, show List.range 39 = [0, 1, 2, 3, 4, 5, 6, 7, 8, 9, 10, 11, 12, 13, 14, 15, 16, 17, 18, 19, 20, 21, 22, 23, 24, 25, 26, 27, 28, 29, 30, 31, 32, 33, 34, 35, 36, 37, 38] from rfl]
        simp only [List.map_cons, List.map_nil, q0, q1, q2, q3, q4, q5, q6, q7, q8, q9, q10, q11, q12, q13, q14, q15, q16, q17, q18, q19, q20, q21, q22, q23, q24, q25, q26, q27, q28, q29, q30, q31, q32, q33, q34, q35, q36, q37, q38]
      clear q0 q1 q2 q3 q4 q5 q6 q7 q8 q9 q10 q11 q12 q13 q14 q15 q16 q17 q18 q19 q20 q21 q22 q23 q24 q25 q26 q27 q28 q29 q30 q31 q32 q33 q34 q35 q36 q37 q38 k13 k20 s13 s20
      obtain ⟨tm, df⟩ := a
      obtain rfl : df = [] := hL.1
      obtain rfl : tm = _ := ht
      have nb : gb + 1 ≠ b3 := by omega
      have gb3 : w.heap.size ≤ b3 := by omega
      have BK := blk_put (blk_put (blk_put (blk_put k3 0 (.string (strOfNums [98, (IntKind.u8.wrap (48 + Int.tmod k 2))])) (cs' := #[.string (strOfNums [98, (IntKind.u8.wrap (48 + Int.tmod k 2))]), .string ⟨#[]⟩, .string ⟨#[]⟩, .bool false]) rfl) 1 (.string (strOfNums [(IntKind.u8.wrap (97 + Int.tmod (IntKind.u8.wrap (Int.tdiv k 2)) 4))])) (cs' := #[.string (strOfNums [98, (IntKind.u8.wrap (48 + Int.tmod k 2))]), .string (strOfNums [(IntKind.u8.wrap (97 + Int.tmod (IntKind.u8.wrap (Int.tdiv k 2)) 4))]), .string ⟨#[]⟩, .bool false]) rfl) 2 (.string (a2.extract 0 (min a2.size 8))) (cs' := #[.string (strOfNums [98, (IntKind.u8.wrap (48 + Int.tmod k 2))]), .string (strOfNums [(IntKind.u8.wrap (97 + Int.tmod (IntKind.u8.wrap (Int.tdiv k 2)) 4))]), .string (a2.extract 0 (min a2.size 8)), .bool false]) rfl) 3 (.bool (decide (224 ≤ k))) (cs' := #[.string (strOfNums [98, (IntKind.u8.wrap (48 + Int.tmod k 2))]), .string (strOfNums [(IntKind.u8.wrap (97 + Int.tmod (IntKind.u8.wrap (Int.tdiv k 2)) 4))]), .string (a2.extract 0 (min a2.size 8)), .bool (decide (224 ≤ k))]) rfl
      have BR := blk_far (blk_far (blk_far (blk_far (hS.2.1) (p := ⟨b3, 0, none⟩) nb (.string (strOfNums [98, (IntKind.u8.wrap (48 + Int.tmod k 2))]))) (p := ⟨b3, 1, none⟩) nb (.string (strOfNums [(IntKind.u8.wrap (97 + Int.tmod (IntKind.u8.wrap (Int.tdiv k 2)) 4))]))) (p := ⟨b3, 2, none⟩) nb (.string (a2.extract 0 (min a2.size 8)))) (p := ⟨b3, 3, none⟩) nb (.bool (decide (224 ≤ k)))
      have HB1 := Aside0.mk (below_set (j := 3) (v := .bool (decide (224 ≤ k))) (below_set (j := 2) (v := .string (a2.extract 0 (min a2.size 8))) (below_set (j := 1) (v := .string (strOfNums [(IntKind.u8.wrap (97 + Int.tmod (IntKind.u8.wrap (Int.tdiv k 2)) 4))])) (below_set (j := 0) (v := .string (strOfNums [98, (IntKind.u8.wrap (48 + Int.tmod k 2))])) (hS.2.2.1) gb3) gb3) gb3) gb3)
      obtain ⟨x0, x1, x2, x3, z0, z1, z2, z3⟩ := Ke4_ k3
      clear hL hA hst HB
      refine tenementlaw08_Put_write.op_some (i := 27) rfl rfl ?_
      unfold Oper.wp
      go_simp
      clear x0 x1 x2 x3 z0 z1 z2 z3 k3 hS
      subst hgb
      generalize ((((W.setCell ⟨b3, 0, none⟩ (.string (strOfNums [98, (IntKind.u8.wrap (48 + Int.tmod k 2))]))).setCell ⟨b3, 1, none⟩ (.string (strOfNums [(IntKind.u8.wrap (97 + Int.tmod (IntKind.u8.wrap (Int.tdiv k 2)) 4))]))).setCell ⟨b3, 2, none⟩ (.string (a2.extract 0 (min a2.size 8)))).setCell ⟨b3, 3, none⟩ (.bool (decide (224 ≤ k)))) = W2 at *
      clear W hs0 s3 hmm m0 m1
      obtain ⟨x0, x1, x2, x3, z0, z1, z2, z3⟩ := Ke4_ BK
      obtain ⟨y0, y1, y2, y3, t0, t1, t2, t3⟩ := Ke4_ BR
      have HH' := HH.out
      clear HH
      generalize (strOfNums [98, (IntKind.u8.wrap (48 + Int.tmod k 2))]) = T1 at *
      generalize (strOfNums [(IntKind.u8.wrap (97 + Int.tmod (IntKind.u8.wrap (Int.tdiv k 2)) 4))]) = T2 at *
      generalize (a2.extract 0 (min a2.size 8)) = T3 at *
      by_cases c6 : 224 ≤ k
      · have c6b : decide (224 ≤ k) = true := decide_eq_true c6
        rw [if_pos c6] at HH'
        simp only [Option.some.injEq, Prod.mk.injEq] at HH'
        obtain ⟨rfl, rfl, rfl, rfl⟩ := HH'
        go_wp2
        have BF := blk_put (blk_put (blk_put (blk_put (blk_far BR (p := ⟨b3, 2, none⟩) nb (.string ⟨#[]⟩)) 0 (.string T1) (cs' := #[.string T1, .string ⟨#[]⟩, .string ⟨#[]⟩, .bool false]) rfl) 1 (.string T2) (cs' := #[.string T1, .string T2, .string ⟨#[]⟩, .bool false]) rfl) 2 (.string ⟨#[]⟩) (cs' := #[.string T1, .string T2, .string ⟨#[]⟩, .bool false]) rfl) 3 (.bool true) (cs' := #[.string T1, .string T2, .string ⟨#[]⟩, .bool true]) rfl
        have HF := below_set (j := 3) (v := .bool true) (below_set (j := 2) (v := .string ⟨#[]⟩) (below_set (j := 1) (v := .string T2) (below_set (j := 0) (v := .string T1) (below_set (j := 2) (v := .string ⟨#[]⟩) HB1.out gb3) (show w.heap.size ≤ w.heap.size + 1 by omega)) (show w.heap.size ≤ w.heap.size + 1 by omega)) (show w.heap.size ≤ w.heap.size + 1 by omega)) (show w.heap.size ≤ w.heap.size + 1 by omega)
        obtain ⟨f0, f1, f2, f3⟩ := Kc4_ BF
        clear x0 x1 x2 x3 y0 y1 y2 y3 z0 z1 z2 z3 t0 t1 t2 t3 BR BK BF
        refine bodyPost_ret (v := .agg #[.string T1, .string T2, .string ⟨#[]⟩, .bool true]) (by simp [results, Try.results12, go_sem, hu23, f0, f1, f2, f3]) rfl ⟨rfl, HF⟩
      · have c6b : decide (224 ≤ k) = false := decide_eq_false c6
        rw [if_neg c6] at HH'
        simp only [Option.some.injEq, Prod.mk.injEq] at HH'
        obtain ⟨rfl, rfl, rfl, rfl⟩ := HH'
        go_wp2
        have BF := blk_put (blk_put (blk_put (blk_put (BR) 0 (.string T1) (cs' := #[.string T1, .string ⟨#[]⟩, .string ⟨#[]⟩, .bool false]) rfl) 1 (.string T2) (cs' := #[.string T1, .string T2, .string ⟨#[]⟩, .bool false]) rfl) 2 (.string T3) (cs' := #[.string T1, .string T2, .string T3, .bool false]) rfl) 3 (.bool false) (cs' := #[.string T1, .string T2, .string T3, .bool false]) rfl
        have HF := below_set (j := 3) (v := .bool false) (below_set (j := 2) (v := .string T3) (below_set (j := 1) (v := .string T2) (below_set (j := 0) (v := .string T1) (HB1.out) (show w.heap.size ≤ w.heap.size + 1 by omega)) (show w.heap.size ≤ w.heap.size + 1 by omega)) (show w.heap.size ≤ w.heap.size + 1 by omega)) (show w.heap.size ≤ w.heap.size + 1 by omega)
        obtain ⟨f0, f1, f2, f3⟩ := Kc4_ BF
        clear x0 x1 x2 x3 y0 y1 y2 y3 z0 z1 z2 z3 t0 t1 t2 t3 BR BK BF
        refine bodyPost_ret (v := .agg #[.string T1, .string T2, .string T3, .bool false]) (by simp [results, Try.results12, go_sem, hu23, f0, f1, f2, f3]) rfl ⟨rfl, HF⟩
end Go.Proofs.Ytoogchgoiciggaa.Q

/- What an argument of a law reads as: the kinds of the printed words, opened out of the form's reading, whatever the type: numbers, bools, texts, slices, structs, arrays. No program here. -/
set_option linter.unusedVariables false
set_option linter.unusedSimpArgs false
namespace Go.Proofs.Ytoogchgoiciggaa.Open
open Go Go.RowKit Go.Deep Go.WideShapes Go.ChangeShapes Go.Proofs.YtoogchgoiciggaaW.PrintWords Go.Proofs.YtoogchgoiciggaaW.PrintLast Go.Proofs.YtoogchgoiciggaaW.PrintMore

structure To (P : Program) (t : TypeId) {α : Type} (K : Kd α) (wf : α → Prop) : Prop where
  sz : P.cellsOf t = K.sz
  go : ∀ {H : Type} (enc : TypeId × Value → H) (w : World) (fuel : Nat) (cs : List Value) (d : DataW H) (ps : List MemPlace),
    DataW.trod enc P w 0 (fun _ => true) true fuel t cs = some (d, ps) → (DataW.weights P t d).all (· ≤ reachBytes) = true → ∃ x : α, K.K w x cs ∧ wf x

theorem int {P : Program} {t : TypeId} {k : IntKind} (ht : P.underlying t = some (.int k)) (hs : P.cellsOf t = 1) : To P t (Kd.int k) (fun n => (Lit.int k n).wf = true) := by
  refine ⟨hs, fun enc w fuel cs d ps h _ => ?_⟩
  obtain ⟨n, rfl, _, hw⟩ := DataW.trod_int ht h
  exact ⟨n, rfl, hw⟩
theorem bool {P : Program} {t : TypeId} (ht : P.underlying t = some .bool) (hs : P.cellsOf t = 1) : To P t Kd.bool (fun _ => True) := by
  refine ⟨hs, fun enc w fuel cs d ps h _ => ?_⟩
  obtain ⟨b, rfl, _⟩ := DataW.trod_bool ht h
  exact ⟨b, rfl, trivial⟩
theorem string {P : Program} {t : TypeId} (ht : P.underlying t = some .string) (hs : P.cellsOf t = 1) : To P t Kd.string (fun s => s.size ≤ 140737488351232) := by
  refine ⟨hs, fun enc w fuel cs d ps h hw => ?_⟩
  obtain ⟨s, rfl, hx, _⟩ := DataW.trod_string ht h
  obtain ⟨rfl, _⟩ := Prod.mk.inj hx
  refine ⟨s, rfl, ?_⟩
  simp only [DataW.weights, List.all_cons, List.all_nil, Bool.and_true, reachBytes, Array.length_toList] at hw
  exact of_decide_eq_true hw
theorem weightsAll_mem {H : Type} {P : Program} {e : TypeId} : ∀ {l : List (DataW H)} {d : DataW H}, d ∈ l → (DataW.weightsAll P e l).all (· ≤ reachBytes) = true → (DataW.weights P e d).all (· ≤ reachBytes) = true
  | [], _, h, _ => by cases h
  | a :: l, d, h, hw => by
    simp only [DataW.weightsAll, List.all_append, Bool.and_eq_true] at hw
    rcases List.mem_cons.1 h with rfl | h
    · exact hw.1
    · exact weightsAll_mem h hw.2
theorem add_add (a : Addr) (i j : Nat) : (a.add i).add j = a.add (i + j) := by
  unfold Addr.add
  by_cases h1 : i = 0 <;> by_cases h2 : j = 0 <;> simp [h1, h2, Nat.add_assoc]
theorem slice {P : Program} {t e : TypeId} {α : Type} {K : Kd α} {wf : α → Prop} {B : Nat} (ht : P.underlying t = some (.slice e)) (hs : P.cellsOf t = 1) (hB : P.bytesOf e = B) (he : To P e K wf) :
    To P t (Kd.slice e K) (fun l => (∀ x ∈ l, wf x) ∧ l.length * B ≤ 140737488351232) := by
  refine ⟨hs, fun {H} enc w fuel cs d ps h hw => ?_⟩
  rcases open_slice ht h with ⟨rfl, _⟩ | ⟨a, len, cap, m, n, D, Pl, rfl, _, hl, hm, hmc, hx, hel⟩
  · exact ⟨[], ⟨none, 0, rfl, Nat.le_refl _, rfl, by simp, fun h => absurd h (by simp)⟩, by simp, by simp⟩
  · obtain ⟨rfl, _⟩ := Prod.mk.inj hx
    simp only [if_true] at hmc
    subst hmc
    have hw1 := hw
    simp only [DataW.weights, ht, List.all_cons, List.all_append, Bool.and_eq_true, decide_eq_true_eq, List.length_map, List.length_range, hB, reachBytes] at hw1
    have hchoose : ∀ i, i < len → ∃ x : α, (∃ cs', w.cells? 0 (a.add (i * P.cellsOf e)) (P.cellsOf e) = some cs' ∧ K.K w x cs') ∧ wf x := by
      intro i hi
      obtain ⟨cs', h1, h2⟩ := hel i (by omega)
      obtain ⟨x, hx1, hx2⟩ := he.go enc w n cs' (D i) (Pl i) h2 (weightsAll_mem (List.mem_map.2 ⟨i, by simpa using hi, rfl⟩) hw1.2.1)
      exact ⟨x, ⟨cs', h1, hx1⟩, hx2⟩
    have hall : ∀ k, k ≤ len → ∃ l : List α, l.length = k ∧ ∀ i x, l[i]? = some x → (∃ cs', w.cells? 0 (a.add (i * P.cellsOf e)) (P.cellsOf e) = some cs' ∧ K.K w x cs') ∧ wf x := by
      intro k
      induction k with
      | zero => intro _; exact ⟨[], rfl, fun i x h => by simp at h⟩
      | succ k ih =>
        intro hk
        obtain ⟨l, h1, h2⟩ := ih (by omega)
        obtain ⟨x, hx⟩ := hchoose k (by omega)
        refine ⟨l ++ [x], by simp [h1], fun i y hy => ?_⟩
        by_cases hi : i < l.length
        · exact h2 i y (by rwa [List.getElem?_append_left hi] at hy)
        · rw [List.getElem?_append_right (by omega)] at hy
          have : i = l.length := by
            have := (List.getElem?_eq_some_iff.1 hy).1
            simp at this; omega
          subst this
          simp at hy
          subst hy
          rw [h1]; exact hx
    obtain ⟨l, h1, h2⟩ := hall len (Nat.le_refl _)
    refine ⟨l, ⟨some a, m, by rw [h1], by omega, rfl, by unfold maxLen at hm; omega, fun _ => ⟨a, rfl, fun j p hj => ?_⟩⟩, ?_, ?_⟩
    · obtain ⟨⟨cs', g1, g2⟩, _⟩ := h2 j p hj
      obtain ⟨_, g3, g4⟩ := World.cells?_some g1
      refine ⟨cs', by rw [g3, he.sz], g2, fun i u hu => ?_⟩
      have hi : i < P.cellsOf e := by
        have := (List.getElem?_eq_some_iff.1 hu).1
        omega
      rw [← hu, ← g4 i hi, add_add, he.sz]
    · intro x hx
      obtain ⟨i, hi, rfl⟩ := List.getElem_of_mem hx
      exact (h2 i _ (List.getElem?_eq_getElem hi)).2
    · rw [h1]
      refine Nat.le_trans (Nat.mul_le_mul_right _ ?_) (of_decide_eq_true hw1.1)
      omega

/-! ### structs, arrays -/
structure Fs (P : Program) (o : Nat) (fs : List (TypeId × Nat)) {α : Type} (K : Kd α) (wf : α → Prop) : Prop where
  go : ∀ {H : Type} (enc : TypeId × Value → H) (w : World) (n : Nat) (cs : List Value) (xs : List (DataW H × List MemPlace)), cs.length = o + K.sz → xs.length = fs.length →
    (∀ (i : Nat) (f : TypeId × Nat), fs[i]? = some f → DataW.trod enc P w 0 (fun _ => true) true n f.1 ((cs.drop f.2).take (P.cellsOf f.1)) = xs[i]?) →
    (DataW.weightsEach P (fs.map (·.1)) (xs.map (·.1))).all (· ≤ reachBytes) = true → ∃ x : α, K.K w x (cs.drop o) ∧ wf x
theorem one {P : Program} {o : Nat} {t : TypeId} {α : Type} {K : Kd α} {wf : α → Prop} (h : To P t K wf) : Fs P o [(t, o)] K wf := by
  refine ⟨fun enc w n cs xs hl hx hr hw => ?_⟩
  match xs, hx with
  | [x], _ =>
    have h0 := hr 0 _ rfl
    simp only [List.getElem?_cons_zero] at h0
    rw [h.sz, List.take_of_length_le (by simp; omega)] at h0
    simp only [List.map_cons, List.map_nil, DataW.weightsEach, List.append_nil] at hw
    exact h.go enc w n _ x.1 x.2 h0 hw
theorem cons {P : Program} {o : Nat} {t : TypeId} {fs : List (TypeId × Nat)} {α β : Type} {K : Kd α} {wf : α → Prop} {L : Kd β} {wg : β → Prop} (h : To P t K wf) (hs : Fs P (o + K.sz) fs L wg) :
    Fs P o ((t, o) :: fs) (Kd.pair K L) (fun x => wf x.1 ∧ wg x.2) := by
  refine ⟨fun {H} enc w n cs xs hl hx hr hw => ?_⟩
  have hsz : (Kd.pair K L).sz = K.sz + L.sz := rfl
  match xs, hx with
  | x :: xs, hx =>
    have h0 := hr 0 _ rfl
    simp only [List.getElem?_cons_zero] at h0
    rw [h.sz] at h0
    simp only [List.map_cons, DataW.weightsEach, List.all_append, Bool.and_eq_true] at hw
    obtain ⟨a, ha, hwa⟩ := h.go enc w n _ x.1 x.2 h0 hw.1
    obtain ⟨b, hb, hwb⟩ := hs.go enc w n cs xs (by omega) (by simpa using hx) (fun i f hf => by have := hr (i + 1) f (by simpa using hf); simpa using this) hw.2
    refine ⟨(a, b), ⟨_, _, ?_, ha, hb⟩, hwa, hwb⟩
    rw [← List.drop_drop, List.take_append_drop]
theorem struct {P : Program} {t : TypeId} {fs : Array Field} {gs : List (TypeId × Nat)} {α : Type} {K : Kd α} {wf : α → Prop} (ht : P.underlying t = some (.struct fs)) (hg : fs.toList.map (fun f => (f.type, f.offset)) = gs) (hs : P.cellsOf t = K.sz) (h : Fs P 0 gs K wf) : To P t K wf := by
  refine ⟨hs, fun {H} enc w fuel cs d ps hr hw => ?_⟩
  obtain ⟨xs, n, _, hx, hl, hxl, hel⟩ := DataW.trod_struct ht hr
  obtain ⟨rfl, _⟩ := Prod.mk.inj hx
  have := h.go enc w n cs xs (by omega) (by rw [← hg]; simpa using hxl) (fun i f hf => ?_) ?_
  · simpa using this
  · rw [← hg] at hf
    simp only [List.getElem?_map, Option.map_eq_some_iff] at hf
    obtain ⟨g, hg1, rfl⟩ := hf
    exact hel i g (by simpa using hg1)
  · rw [← hg]
    simp only [DataW.weights, ht] at hw
    simpa [List.map_map, Function.comp_def] using hw
theorem weightsAll_each {H : Type} (P : Program) (e : TypeId) : ∀ (l : List (DataW H)) (ts : List TypeId), ts.length = l.length → (∀ t ∈ ts, t = e) → DataW.weightsEach P ts l = DataW.weightsAll P e l
  | [], [], _, _ => rfl
  | [], _ :: _, h, _ => by simp at h
  | _ :: _, [], h, _ => by simp at h
  | d :: l, t :: ts, h, ht => by
    simp only [DataW.weightsEach, DataW.weightsAll]
    rw [ht t (by simp), weightsAll_each P e l ts (by simpa using h) (fun x hx => ht x (by simp [hx]))]
theorem array {P : Program} {t e : TypeId} {n s : Nat} {α : Type} {K : Kd α} {wf : α → Prop} (ht : P.underlying t = some (.array n e)) (he : P.cellsOf e = s) (hs : P.cellsOf t = K.sz) (h : Fs P 0 ((List.range n).map fun i => (e, i * s)) K wf) : To P t K wf := by
  refine ⟨hs, fun {H} enc w fuel cs d ps hr hw => ?_⟩
  obtain ⟨xs, m, _, hx, hl, hxl, hel⟩ := DataW.trod_array ht hr
  obtain ⟨rfl, _⟩ := Prod.mk.inj hx
  have := h.go enc w m cs xs (by omega) (by simpa using hxl) (fun i f hf => ?_) ?_
  · simpa using this
  · simp only [List.getElem?_map, Option.map_eq_some_iff] at hf
    obtain ⟨g, hg1, rfl⟩ := hf
    have hi : i < n := by have := (List.getElem?_eq_some_iff.1 hg1).1; simpa using this
    have hgi : g = i := by
      have := (List.getElem?_eq_some_iff.1 hg1).2
      simpa using this.symm
    subst hgi
    have := hel g hi
    rw [he] at this ⊢
    exact this
  · simp only [DataW.weights, ht] at hw
    rw [weightsAll_each P e _ _ (by simp [hxl]) (by simp)]
    exact hw
theorem iso {P : Program} {t : TypeId} {α β : Type} {K : Kd α} {wf : α → Prop} (f : β → α) (g : α → β) (hfg : ∀ a, f (g a) = a) (h : To P t K wf) : To P t (Kd.iso K f) (fun b => wf (f b)) := by
  refine ⟨h.sz, fun {H} enc w fuel cs d ps hr hw => ?_⟩
  obtain ⟨x, h1, h2⟩ := h.go enc w fuel cs d ps hr hw
  refine ⟨g x, ?_, ?_⟩
  · show K.K w (f (g x)) cs
    rw [hfg]; exact h1
  · rw [hfg]; exact h2
theorem imp {P : Program} {t : TypeId} {α : Type} {K : Kd α} {wf wf' : α → Prop} (h : To P t K wf) (hi : ∀ x, wf x → wf' x) : To P t K wf' :=
  ⟨h.sz, fun enc w fuel cs d ps hr hw => by
    obtain ⟨x, h1, h2⟩ := h.go enc w fuel cs d ps hr hw
    exact ⟨x, h1, hi x h2⟩⟩
/-- At a parameter. -/
theorem at_param {P : Program} {t : TypeId} {α : Type} {K : Kd α} {wf : α → Prop} (h : To P t K wf) {H : Type} {enc : TypeId × Value → H} {w : World} {v : Value} {d : DataW H} {ps : List MemPlace} {ts : List TypeId} {ds : List (DataW H)} {j : Nat}
    (hsz : (DataW.weightsEach P ts ds).all (· ≤ reachBytes) = true) (ht : ts[j]? = some t) (hd : ds[j]? = some d) (hr : DataW.Trod enc P w 0 (fun _ => true) true t v d ps) : ∃ x : α, K.K w x v.cells.toList ∧ wf x := by
  obtain ⟨fuel, hf⟩ := hr
  refine h.go enc w fuel _ d ps hf ?_
  rw [List.all_eq_true]
  intro x hx
  exact List.all_eq_true.1 hsz x (DataW.weights_mem_each ht hd x hx)
theorem okWide_array {P : Program} {w : World} {r : Reach} {base : Nat} {t : TypeId} {v : Value} {n : Nat} {e : TypeId} (ht : P.underlying t = some (.array n e)) (h : Value.okWide P w r base t v) : ∃ cs, v = .agg cs := by
  simp only [Value.okWide, ht] at h
  obtain ⟨cs, h1, _⟩ := h
  exact ⟨cs, h1⟩
end Go.Proofs.Ytoogchgoiciggaa.Open

set_option linter.unusedVariables false
namespace Go.Proofs.Ytoogchgoiciggaa.Q
open Go.RowKit Go.Proofs.Ytoogchgoiciggaa.Q Go.Proofs.YtoogchgoiciggaaW.PrintWords Go.Proofs.YtoogchgoiciggaaW.PrintLast Go.Proofs.YtoogchgoiciggaaW.PrintMore
open Go.Proofs.Ytoogchgoiciggaa
def wf23 (x : S23) : Prop := (x.f0.size ≤ 140737488351232) ∧ (x.f1.size ≤ 140737488351232) ∧ (x.f2.size ≤ 140737488351232) ∧ (True)
theorem to23 : Open.To Try.prog 23 k23 wf23 := Open.imp (Open.iso (fun x : S23 => (x.f0, (x.f1, (x.f2, x.f3)))) (fun y => (⟨y.1, y.2.1, y.2.2.1, y.2.2.2⟩ : S23)) (fun _ => rfl) (Open.struct Try.underlying23 (by rfl) (by kernel_rfl) (show Open.Fs Try.prog 0 [(9, 0), (9, 1), (9, 2), (4, 3)] _ _ from (Open.cons (Open.string Try.underlying9 (by kernel_rfl)) (Open.cons (Open.string Try.underlying9 (by kernel_rfl)) (Open.cons (Open.string Try.underlying9 (by kernel_rfl)) (Open.one (Open.bool Try.underlying4 (by kernel_rfl))))))))) (fun _ h => h)
def wf25 (x : S25) : Prop := (wf23 x.f0) ∧ (True) ∧ ((Lit.int .u8 x.f2).wf = true)
theorem to25 : Open.To Try.prog 25 k25 wf25 := Open.imp (Open.iso (fun x : S25 => (x.f0, (x.f1, x.f2))) (fun y => (⟨y.1, y.2.1, y.2.2⟩ : S25)) (fun _ => rfl) (Open.struct Try.underlying25 (by rfl) (by kernel_rfl) (show Open.Fs Try.prog 0 [(23, 0), (4, 4), (5, 5)] _ _ from (Open.cons to23 (Open.cons (Open.bool Try.underlying4 (by kernel_rfl)) (Open.one (Open.int Try.underlying5 (by kernel_rfl)))))))) (fun _ h => h)
def wf28 (x : S28) : Prop := ((Lit.int .u64 x.f0).wf = true) ∧ ((Lit.int .u64 x.f1).wf = true) ∧ ((Lit.int .u64 x.f2).wf = true) ∧ ((Lit.int .u64 x.f3).wf = true)
theorem to28 : Open.To Try.prog 28 k28 wf28 := Open.imp (Open.iso (fun x : S28 => (x.f0, (x.f1, (x.f2, x.f3)))) (fun y => (⟨y.1, y.2.1, y.2.2.1, y.2.2.2⟩ : S28)) (fun _ => rfl) (Open.array (n := 4) (e := 26) (s := 1) Try.underlying28 (by kernel_rfl) (by kernel_rfl) (show Open.Fs Try.prog 0 [(26, 0), (26, 1), (26, 2), (26, 3)] _ _ from (Open.cons (Open.int Try.underlying26 (by kernel_rfl)) (Open.cons (Open.int Try.underlying26 (by kernel_rfl)) (Open.cons (Open.int Try.underlying26 (by kernel_rfl)) (Open.one (Open.int Try.underlying26 (by kernel_rfl))))))))) (fun _ h => h)
def wf30 (x : S30) : Prop := (wf28 x.f0) ∧ ((Lit.int .i64 x.f1).wf = true)
theorem to30 : Open.To Try.prog 30 k30 wf30 := Open.imp (Open.iso (fun x : S30 => (x.f0, x.f1)) (fun y => (⟨y.1, y.2⟩ : S30)) (fun _ => rfl) (Open.struct Try.underlying30 (by rfl) (by kernel_rfl) (show Open.Fs Try.prog 0 [(28, 0), (3, 4)] _ _ from (Open.cons to28 (Open.one (Open.int Try.underlying3 (by kernel_rfl))))))) (fun _ h => h)
def wf32 (x : S32) : Prop := (wf30 x.f0) ∧ (True)
theorem to32 : Open.To Try.prog 32 k32 wf32 := Open.imp (Open.iso (fun x : S32 => (x.f0, x.f1)) (fun y => (⟨y.1, y.2⟩ : S32)) (fun _ => rfl) (Open.struct Try.underlying32 (by rfl) (by kernel_rfl) (show Open.Fs Try.prog 0 [(30, 0), (4, 5)] _ _ from (Open.cons to30 (Open.one (Open.bool Try.underlying4 (by kernel_rfl))))))) (fun _ h => h)
def wf35 (x : S35) : Prop := (wf32 x.f0) ∧ ((∀ x_ ∈ x.f1, wf25 x_) ∧ x.f1.length * 64 ≤ 140737488351232) ∧ (True)
theorem to35 : Open.To Try.prog 35 k35 wf35 := Open.imp (Open.iso (fun x : S35 => (x.f0, (x.f1, x.f2))) (fun y => (⟨y.1, y.2.1, y.2.2⟩ : S35)) (fun _ => rfl) (Open.struct Try.underlying35 (by rfl) (by kernel_rfl) (show Open.Fs Try.prog 0 [(32, 0), (33, 6), (4, 7)] _ _ from (Open.cons to32 (Open.cons (Open.slice (e := 25) (B := 64) Try.underlying33 (by kernel_rfl) (by kernel_rfl) to25) (Open.one (Open.bool Try.underlying4 (by kernel_rfl)))))))) (fun _ h => h)
end Go.Proofs.Ytoogchgoiciggaa.Q

/- Plain lists of bytes: numbers of as few bytes as they need, numbers of a fixed size, texts behind their length. No program here. -/
namespace Go.Proofs.Ytoogchgoiciggaa.Plain

/-! ### numbers of as few bytes as they need -/
def vary (n : Nat) : List Nat := if n < 128 then [n] else (n % 128 + 128) :: vary (n / 128)
termination_by n
decreasing_by omega

theorem vary_small {n : Nat} (h : n < 128) : vary n = [n] := by rw [vary, if_pos h]
theorem vary_big {n : Nat} (h : ¬ n < 128) : vary n = (n % 128 + 128) :: vary (n / 128) := by rw [vary, if_neg h]
theorem vary_ne_nil (n : Nat) : vary n ≠ [] := by
  by_cases h : n < 128
  · rw [vary_small h]; simp
  · rw [vary_big h]; simp
theorem vary_pos (n : Nat) : 0 < (vary n).length := List.length_pos_iff.2 (vary_ne_nil n)
theorem vary_lt (n : Nat) : ∀ b ∈ vary n, b < 256 := by
  induction n using Nat.strongRecOn with
  | _ n ih =>
    intro b hb
    by_cases h : n < 128
    · rw [vary_small h] at hb; simp at hb; omega
    · rw [vary_big h] at hb
      rcases List.mem_cons.1 hb with rfl | hb
      · omega
      · exact ih (n / 128) (by omega) b hb
/-- how many bytes -/
theorem vary_len_le (k : Nat) : ∀ n, n < 128 ^ (k + 1) → (vary n).length ≤ k + 1 := by
  induction k with
  | zero => intro n h; rw [vary_small (by simpa using h)]; simp
  | succ k ih =>
    intro n h
    by_cases h1 : n < 128
    · rw [vary_small h1]; simp
    · rw [vary_big h1]
      have := ih (n / 128) (by rw [Nat.div_lt_iff_lt_mul (by omega)]; rw [Nat.pow_succ] at h; exact h)
      simp; omega
theorem vary_len_gt (k : Nat) : ∀ n, 128 ^ k ≤ n → k < (vary n).length := by
  induction k with
  | zero => intro n _; exact vary_pos n
  | succ k ih =>
    intro n h
    have h1 : ¬ n < 128 := by
      have : 128 ^ 1 ≤ 128 ^ (k + 1) := Nat.pow_le_pow_right (by omega) (by omega)
      omega
    rw [vary_big h1]
    have := ih (n / 128) (by rw [Nat.le_div_iff_mul_le (by omega), ← Nat.pow_succ]; exact h)
    simp; omega
theorem vary_len_ten {n : Nat} (h : n < 18446744073709551616) : (vary n).length ≤ 10 := vary_len_le 9 n (by omega)
/-- it is the length alone that a number's bytes can be told by: where they end -/
theorem vary_prefix (n : Nat) : ∀ m (r s : List Nat), vary n ++ r = vary m ++ s → n = m ∧ r = s := by
  induction n using Nat.strongRecOn with
  | _ n ih =>
    intro m r s h
    by_cases h1 : n < 128
    · rw [vary_small h1] at h
      by_cases h2 : m < 128
      · rw [vary_small h2] at h
        simp at h; exact h
      · rw [vary_big h2] at h
        simp at h; omega
    · rw [vary_big h1] at h
      by_cases h2 : m < 128
      · rw [vary_small h2] at h
        simp at h; omega
      · rw [vary_big h2] at h
        simp only [List.cons_append, List.cons.injEq] at h
        obtain ⟨e, h⟩ := h
        obtain ⟨e2, h⟩ := ih (n / 128) (by omega) (m / 128) r s h
        exact ⟨by omega, h⟩
theorem vary_inj {n m : Nat} (h : vary n = vary m) : n = m := (vary_prefix n m [] [] (by rw [h])).1
/-- the byte at a place -/
theorem vary_get (i : Nat) : ∀ n, i < (vary n).length → (vary n)[i]? = some (n / 128 ^ i % 128 + if i + 1 < (vary n).length then 128 else 0) := by
  induction i with
  | zero =>
    intro n hi
    by_cases h : n < 128
    · rw [vary_small h]; simp; omega
    · rw [vary_big h]
      have := vary_pos (n / 128)
      simp [this]
  | succ i ih =>
    intro n hi
    by_cases h : n < 128
    · rw [vary_small h] at hi; simp at hi
    · have e := vary_big h
      have hl : (vary n).length = (vary (n / 128)).length + 1 := by rw [e]; rfl
      rw [e, List.getElem?_cons_succ, ih (n / 128) (by omega)]
      congr 2
      · rw [Nat.div_div_eq_div_mul, Nat.pow_succ, Nat.mul_comm 128]
      · simp
/-- the end: what is left of the number -/
theorem vary_len_iff (n i : Nat) : i < (vary n).length ↔ i = 0 ∨ 128 ^ i ≤ n := by
  constructor
  · intro h
    by_cases h0 : i = 0
    · exact .inl h0
    · refine .inr ?_
      rcases Nat.lt_or_ge n (128 ^ i) with hl | hl
      · obtain ⟨j, rfl⟩ : ∃ j, i = j + 1 := ⟨i - 1, by omega⟩
        have := vary_len_le j n hl
        omega
      · exact hl
  · rintro (rfl | h)
    · exact vary_pos n
    · exact vary_len_gt i n h

/-! ### numbers of a fixed size, the greatest byte first -/
def be : Nat → Nat → List Nat
  | 0, _ => []
  | k + 1, a => (a / 256 ^ k % 256) :: be k a
def bev : List Nat → Nat
  | [] => 0
  | b :: l => b * 256 ^ l.length + bev l
theorem be_len (k a : Nat) : (be k a).length = k := by induction k with | zero => rfl | succ k ih => simp [be, ih]
theorem be_lt (k a : Nat) : ∀ b ∈ be k a, b < 256 := by
  induction k with
  | zero => intro b h; simp [be] at h
  | succ k ih => intro b h; simp only [be, List.mem_cons] at h; rcases h with rfl | h <;> first | omega | exact ih b h
theorem bev_lt (l : List Nat) (h : ∀ b ∈ l, b < 256) : bev l < 256 ^ l.length := by
  induction l with
  | nil => simp [bev]
  | cons b l ih =>
    have h1 := ih (fun x hx => h x (by simp [hx]))
    have h2 : b < 256 := h b (by simp)
    simp only [bev, List.length_cons, Nat.pow_succ]
    have : b * 256 ^ l.length ≤ 255 * 256 ^ l.length := Nat.mul_le_mul_right _ (by omega)
    omega
theorem bev_be (k a : Nat) : bev (be k a) = a % 256 ^ k := by
  induction k with
  | zero => simp [be, bev, Nat.mod_one]
  | succ k ih =>
    simp only [be, bev, be_len, ih]
    rw [Nat.pow_succ, Nat.mod_mul, Nat.add_comm, Nat.mul_comm]
theorem be_bev (l : List Nat) (h : ∀ b ∈ l, b < 256) : be l.length (bev l) = l := by
  induction l with
  | nil => rfl
  | cons b l ih =>
    have h1 : ∀ b ∈ l, b < 256 := fun x hx => h x (by simp [hx])
    have h2 : b < 256 := h b (by simp)
    have h3 := bev_lt l h1
    have key : ∀ k, k ≤ l.length → be k (b * 256 ^ l.length + bev l) = be k (bev l) := by
      intro k
      induction k with
      | zero => intro _; rfl
      | succ k ihk =>
        intro hk
        simp only [be]
        rw [ihk (by omega)]
        congr 1
        have e : b * 256 ^ l.length = (b * 256 ^ (l.length - (k + 1))) * 256 * 256 ^ k := by
          rw [Nat.mul_assoc, Nat.mul_assoc, ← Nat.pow_succ', ← Nat.pow_add]
          congr 2; omega
        rw [e, Nat.add_comm, Nat.add_mul_div_right _ _ (Nat.pow_pos (by omega))]
        omega
    simp only [List.length_cons, bev, be]
    rw [key _ (Nat.le_refl _), ih h1]
    congr 1
    rw [Nat.add_comm, Nat.add_mul_div_right _ _ (Nat.pow_pos (by omega)), Nat.div_eq_of_lt h3]
    omega
theorem be_inj {k a b : Nat} (ha : a < 256 ^ k) (hb : b < 256 ^ k) (h : be k a = be k b) : a = b := by
  have := congrArg bev h
  rwa [bev_be, bev_be, Nat.mod_eq_of_lt ha, Nat.mod_eq_of_lt hb] at this
theorem bev_snoc (l : List Nat) (b : Nat) : bev (l ++ [b]) = bev l * 256 + b := by
  induction l with
  | nil => simp [bev]
  | cons a l ih =>
    simp only [List.cons_append, bev, ih, List.length_append, List.length_singleton, Nat.pow_succ]
    rw [Nat.add_mul, Nat.mul_assoc]; omega
/-- their order as bytes -/
def less : List Nat → List Nat → Bool
  | _, [] => false
  | [], _ :: _ => true
  | a :: l, b :: m => decide (a < b) || (decide (a = b) && less l m)
theorem less_be (k : Nat) : ∀ a b : Nat, a < 256 ^ k → b < 256 ^ k → (less (be k a) (be k b) = true ↔ a < b) := by
  have main : ∀ l m : List Nat, l.length = m.length → (∀ x ∈ l, x < 256) → (∀ x ∈ m, x < 256) → (less l m = true ↔ bev l < bev m) := by
    intro l
    induction l with
    | nil => intro m hl _ _; cases m with | nil => simp [less] | cons => simp at hl
    | cons a l ih =>
      intro m hl h1 h2
      cases m with
      | nil => simp at hl
      | cons b m =>
        have hl' : l.length = m.length := by simpa using hl
        have g1 := bev_lt l (fun x hx => h1 x (by simp [hx]))
        have g2 := bev_lt m (fun x hx => h2 x (by simp [hx]))
        have hi := ih m hl' (fun x hx => h1 x (by simp [hx])) (fun x hx => h2 x (by simp [hx]))
        simp only [less, bev, Bool.or_eq_true, Bool.and_eq_true, decide_eq_true_eq, hi]
        rw [hl'] at g1 ⊢
        rcases Nat.lt_trichotomy a b with h | h | h
        · have : (a + 1) * 256 ^ m.length ≤ b * 256 ^ m.length := Nat.mul_le_mul_right _ h
          rw [Nat.add_mul] at this
          constructor
          · intro _; omega
          · intro _; exact .inl h
        · subst h
          constructor
          · rintro (h | ⟨_, h⟩) <;> omega
          · intro h; exact .inr ⟨rfl, by omega⟩
        · have : (b + 1) * 256 ^ m.length ≤ a * 256 ^ m.length := Nat.mul_le_mul_right _ h
          rw [Nat.add_mul] at this
          constructor
          · rintro (h | ⟨h, _⟩) <;> omega
          · intro h; omega
  intro a b ha hb
  rw [main _ _ (by rw [be_len, be_len]) (be_lt k a) (be_lt k b), bev_be, bev_be, Nat.mod_eq_of_lt ha, Nat.mod_eq_of_lt hb]
end Go.Proofs.Ytoogchgoiciggaa.Plain

/- Texts as lists of bytes; wraps that do nothing. -/
set_option linter.unusedVariables false
set_option linter.unusedSimpArgs false
namespace Go.Proofs.Ytoogchgoiciggaa.Pure
open Go.RowKit Go.Proofs.YtoogchgoiciggaaW.PrintWords Go.Proofs.YtoogchgoiciggaaW.PrintLast Go.Proofs.YtoogchgoiciggaaW.PrintMore

/-! ### texts as lists of bytes -/
def bl (s : ByteArray) : List Nat := s.data.toList.map UInt8.toNat
theorem bl_length (s : ByteArray) : (bl s).length = s.size := by unfold bl; rw [List.length_map, Array.length_toList]; rfl
theorem bl_lt (s : ByteArray) : ∀ b ∈ bl s, b < 256 := by
  intro b hb
  obtain ⟨u, _, rfl⟩ := List.mem_map.1 hb
  exact u.toNat_lt
theorem map_toNat_inj : ∀ {l m : List UInt8}, l.map UInt8.toNat = m.map UInt8.toNat → l = m
  | [], [], _ => rfl
  | [], _ :: _, h => by simp at h
  | _ :: _, [], h => by simp at h
  | a :: l, b :: m, h => by
    simp only [List.map_cons, List.cons.injEq] at h
    rw [UInt8.toNat_inj.1 h.1, map_toNat_inj h.2]
theorem ba_ext {s t : ByteArray} (h : s.data.toList = t.data.toList) : s = t := by
  cases s; cases t
  simp only [ByteArray.mk.injEq]
  exact Array.toList_inj.1 h
theorem bl_inj {s t : ByteArray} (h : bl s = bl t) : s = t := ba_ext (map_toNat_inj h)
theorem bl_append (s t : ByteArray) : bl (s ++ t) = bl s ++ bl t := by
  unfold bl; rw [← List.map_append, ByteArray.data_append]; simp
theorem bl_extract (s : ByteArray) (a b : Nat) : bl (s.extract a b) = ((bl s).take b).drop a := by
  unfold bl
  rw [← List.map_take, ← List.map_drop]
  congr 1
  simp [ByteArray.data_extract, Array.toList_extract, List.extract_eq_take_drop, List.drop_take]
theorem bl_take (s : ByteArray) (n : Nat) : bl (s.extract 0 n) = (bl s).take n := by rw [bl_extract, List.drop_zero]
theorem bl_drop (s : ByteArray) (n : Nat) : bl (s.extract n s.size) = (bl s).drop n := by rw [bl_extract, ← bl_length, List.take_length]
theorem toList_data (s : ByteArray) : s.toList = s.data.toList := by
  exact ByteArray.toList_eq s
theorem toList_iff {s t : ByteArray} : s.toList = t.toList ↔ s = t := by
  rw [toList_data, toList_data]; exact ⟨ba_ext, fun h => by rw [h]⟩
def NL (l : List Nat) : List Int := l.map fun n : Nat => (n : Int)
theorem bl_str (l : List Nat) (h : ∀ b ∈ l, b < 256) : bl (strOfNums (NL l)) = l := by
  unfold bl strOfNums NL
  simp only [List.map_map]
  conv => rhs; rw [← List.map_id l]
  apply List.map_congr_left
  intro b hb
  have := h b hb
  simp [UInt8.toNat_ofNat_of_lt', this]
theorem bl_empty : bl (⟨#[]⟩ : ByteArray) = [] := rfl
theorem bl_nil {s : ByteArray} : bl s = [] ↔ s = ⟨#[]⟩ := ⟨fun h => bl_inj (by rw [h]; rfl), fun h => by rw [h]; rfl⟩
theorem bt_bl (s : ByteArray) (i : Nat) (h : i < s.size) : ∃ b, (bl s)[i]? = some b ∧ bt s i = (b : Int) ∧ b < 256 := by
  have hl : i < (bl s).length := by rw [bl_length]; exact h
  refine ⟨(bl s)[i], List.getElem?_eq_getElem hl, ?_, bl_lt s _ (List.getElem_mem hl)⟩
  unfold bt
  rw [dif_pos (by simpa using h)]
  simp [bl, ByteArray.getElem_eq_getElem_data]
theorem wrap_u64 {x : Int} (h0 : 0 ≤ x) (h1 : x < 18446744073709551616) : IntKind.u64.wrap x = x := by
  simp only [IntKind.wrap_u64]; omega
theorem wrap64_id {x : Int} (h0 : -9223372036854775808 ≤ x) (h1 : x ≤ 9223372036854775807) : wrap64 x = x := by
  unfold wrap64; omega
end Go.Proofs.Ytoogchgoiciggaa.Pure

/- What Vary, of package pack, answers: by lists of bytes. -/
set_option linter.unusedVariables false
set_option linter.unusedSimpArgs false
namespace Go.Proofs.Ytoogchgoiciggaa.Pure
open Go.RowKit Go.Proofs.Ytoogchgoiciggaa.Q Go.Proofs.YtoogchgoiciggaaW.PrintWords Go.Proofs.YtoogchgoiciggaaW.PrintLast Go.Proofs.YtoogchgoiciggaaW.PrintMore Go.Proofs.Ytoogchgoiciggaa.Plain

theorem u8_or_128 : ∀ m : Nat, m < 256 → Go.bits .or .u8 (m : Int) 128 = ((m % 128 + 128 : Nat) : Int) := by
  intro m hm
  have h : ∀ m : Fin 256, (m.val ||| 128) = m.val % 128 + 128 := by decide +kernel
  have h2 := u8_or_nat m 128 hm (by omega)
  rw [show ((128 : Nat) : Int) = 128 from rfl] at h2
  rw [h2, h ⟨m, hm⟩]
theorem u8_and_127 : ∀ m : Nat, m < 256 → Go.bits .and .u8 (m : Int) 127 = ((m % 128 : Nat) : Int) := by
  intro m hm
  have h : ∀ m : Fin 256, (m.val &&& 127) = m.val % 128 := by decide +kernel
  have h2 := u8_and_nat m 127 hm (by omega)
  rw [show ((127 : Nat) : Int) = 127 from rfl] at h2
  rw [h2, h ⟨m, hm⟩]

/-! ### Vary -/
theorem vary_tells (n : Nat) : ∀ (k : Nat) (acc : List Nat), (vary n).length < k → acc.length + (vary n).length ≤ 140737488355328 →
    pack_Vary.l0 k (n : Int) (NL acc) = some (strOfNums (NL (acc ++ vary n))) := by
  induction n using Nat.strongRecOn with
  | _ n ih =>
    intro k acc hk hl
    obtain ⟨k, rfl⟩ : ∃ m, k = m + 1 := ⟨k - 1, by omega⟩
    simp only [pack_Vary.l0]
    have hlen : (NL acc).length = acc.length := by simp [NL]
    by_cases h : n < 128
    · rw [vary_small h] at hl ⊢
      rw [if_neg (by omega), if_pos (by rw [hlen]; simp at hl; omega)]
      rw [show (n : Int) % 256 = (n : Int) by omega]
      simp [NL]
    · rw [vary_big h] at hl hk ⊢
      simp only [List.length_cons] at hl hk
      rw [if_pos (by omega), if_pos (by rw [hlen]; omega)]
      have e1 : (n : Int) / 128 = ((n / 128 : Nat) : Int) := by omega
      have e2 : (n : Int) % 256 = ((n % 256 : Nat) : Int) := by omega
      rw [e1, e2, u8_or_128 _ (by omega)]
      have e3 : NL acc ++ [((n % 256 % 128 + 128 : Nat) : Int)] = NL (acc ++ [n % 128 + 128]) := by
        rw [show n % 256 % 128 = n % 128 by omega]; simp [NL]
      rw [e3, ih (n / 128) (by omega) k _ (by omega) (by simp; omega)]
      simp
/-- what package pack puts for a number -/
def vs (n : Nat) : ByteArray := strOfNums (NL (vary n))
theorem bl_vs (n : Nat) : bl (vs n) = vary n := bl_str _ (vary_lt n)
theorem vs_size (n : Nat) : (vs n).size = (vary n).length := by rw [← bl_length, bl_vs]
theorem Vary_f {n k : Nat} (h : n < 18446744073709551616) (hk : 11 ≤ k) : pack_Vary.f k (n : Int) = some (vs n) := by
  have h1 := vary_len_ten h
  have := vary_tells n k [] (by omega) (by simp; omega)
  exact this

/-! ### reading such a number -/
/-- What a reader answers whose rest is 's': the number at its front, if one stands there. -/
inductive VaryRes (s : ByteArray) : Int × ByteArray × Bool → Prop
  | good (n : Nat) (rest : ByteArray) (hn : n < 18446744073709551616) (hs : bl s = vary n ++ bl rest) : VaryRes s ((n : Int), rest, false)
  | bad (h : ∀ n, n < 18446744073709551616 → ∀ r, bl s ≠ vary n ++ r) : VaryRes s (0, ⟨#[]⟩, true)
theorem VaryRes.unique {s : ByteArray} {a b : Int × ByteArray × Bool} (ha : VaryRes s a) (hb : VaryRes s b) : a = b := by
  cases ha with
  | good n r hn hs =>
    cases hb with
    | good m q hm ht =>
      obtain ⟨rfl, e⟩ := vary_prefix _ _ _ _ (hs.symm.trans ht)
      rw [bl_inj e]
    | bad h => exact absurd hs (h n hn _)
  | bad h =>
    cases hb with
    | good m q hm ht => exact absurd ht (h m hm _)
    | bad h => rfl
theorem acc_or (n i : Nat) (hn : n < 18446744073709551616) (hi : i < (vary n).length) :
    Go.bits .or .u64 ((n % 128 ^ i : Nat) : Int) (shl .u64 (IntKind.u64.wrap ((n / 128 ^ i % 128 : Nat) : Int)) (7 * (i : Int))) = ((n % 128 ^ (i + 1) : Nat) : Int) := by
  have h10 := vary_len_ten hn
  have hle : n % 128 ^ (i + 1) = n % 128 ^ i + 128 ^ i * (n / 128 ^ i % 128) := by rw [Nat.pow_succ, Nat.mod_mul]
  have hlt : n % 128 ^ (i + 1) ≤ n := Nat.mod_le _ _
  have hp : 0 < 128 ^ i := Nat.pow_pos (by omega)
  have hm : n % 128 ^ i < 128 ^ i := Nat.mod_lt _ hp
  have h7 : (128 : Nat) ^ i = 2 ^ (7 * i) := by rw [Nat.pow_mul]
  generalize hg : n / 128 ^ i % 128 = g at *
  have hg' : g < 128 := by omega
  generalize hc : n % 128 ^ i = c at *
  have hprod : 128 ^ i * g < 18446744073709551616 := by omega
  have hw : IntKind.u64.wrap (g : Int) = (g : Int) := wrap_u64 (by omega) (by omega)
  have hs : shl .u64 (g : Int) (7 * (i : Int)) = ((128 ^ i * g : Nat) : Int) := by
    unfold shl
    rw [show (7 * (i : Int)).toNat = 7 * i by omega, Nat.min_eq_left (by show 7 * i ≤ 64; omega)]
    have e : (g : Int) * 2 ^ (7 * i) = ((128 ^ i * g : Nat) : Int) := by rw [h7, Int.natCast_mul, Int.mul_comm]; simp
    rw [e, wrap_u64 (by omega) (by omega)]
  have hcn : c < 18446744073709551616 := by omega
  rw [hw, hs, u64_or_nat _ _ hcn hprod, hle]
  congr 1
  rw [h7] at hm ⊢
  rw [Nat.add_comm, Nat.two_pow_add_eq_or_of_lt hm, Nat.or_comm]
theorem u64_or_range (a b : Int) (h1 : 0 ≤ a) (h2 : a < 18446744073709551616) (h3 : 0 ≤ b) (h4 : b < 18446744073709551616) : 0 ≤ Go.bits .or .u64 a b ∧ Go.bits .or .u64 a b < 18446744073709551616 := by
  rw [u64_or a b h1 h2 h3 h4]
  have : a.toNat ||| b.toNat < 2 ^ 64 := Nat.or_lt_two_pow (by omega) (by omega)
  omega
theorem shl_range (x y : Int) : 0 ≤ shl .u64 x y ∧ shl .u64 x y < 18446744073709551616 := by
  unfold shl; simp only [IntKind.wrap_u64]; omega
theorem mn_lt {i n : Nat} (h : i < min n 10) : (i : Int) < mn (n : Int) 10 := by unfold mn; split <;> omega
theorem mn_ge {i n : Nat} (h : ¬ i < min n 10) : ¬ (i : Int) < mn (n : Int) 10 := by unfold mn; split <;> omega
theorem wrap_seven {i : Nat} (h : i < 10) : wrap64 (7 * (i : Int)) = 7 * (i : Int) := wrap64_id (by omega) (by omega)
theorem wrap_succ {i : Nat} (h : i < 10) : wrap64 ((i : Int) + 1) = ((i + 1 : Nat) : Int) := by rw [wrap64_id (by omega) (by omega)]; omega
/-- The loop, at any place: whatever was gathered is a number of 64 bits; and where a number stands at the front, it is its lower part. -/
theorem varyR_loop (s : ByteArray) (b : Bool) (hz : s.size ≤ 9223372036854775807) (d : Nat) : ∀ (k i : Nat) (x : Int), i + d = min s.size 10 → 0 ≤ x → x < 18446744073709551616 → d + 12 ≤ k →
    (∀ j, j < i → ∃ c, (bl s)[j]? = some c ∧ 128 ≤ c) →
    (∀ n, n < 18446744073709551616 → ∀ r, bl s = vary n ++ r → i < (vary n).length ∧ x = ((n % 128 ^ i : Nat) : Int)) →
    ∃ r, pack_Reader_Vary.l0 k x (mn (s.size : Int) 10) (i : Int) s b = some r ∧ VaryRes s r := by
  induction d with
  | zero =>
    intro k i x hi h0 h1 hk hall hn
    obtain ⟨k, rfl⟩ : ∃ m, k = m + 1 := ⟨k - 1, by omega⟩
    refine ⟨(0, ⟨#[]⟩, true), ?_, .bad fun n hn' r hs => ?_⟩
    · simp only [pack_Reader_Vary.l0]
      rw [if_neg (mn_ge (by omega))]
      rfl
    · have h2 := (hn n hn' r hs).1
      have h3 := vary_len_ten hn'
      have h4 : (vary n).length ≤ s.size := by rw [← bl_length, hs]; simp
      omega
  | succ d ih =>
    intro k i x hi h0 h1 hk hall hn
    obtain ⟨k, rfl⟩ : ∃ m, k = m + 1 := ⟨k - 1, by omega⟩
    have hlt : i < s.size := by omega
    have hi10 : i < 10 := by omega
    obtain ⟨c, hc, hbt, hc256⟩ := bt_bl s i hlt
    simp only [pack_Reader_Vary.l0]
    rw [if_pos (mn_lt (by omega)), if_pos (Int.natCast_nonneg i), if_pos (Int.ofNat_lt.2 hlt), hbt, wrap_seven hi10, if_pos (Int.mul_nonneg (by decide) (Int.natCast_nonneg i)), wrap_succ hi10, u8_and_127 _ hc256]
    clear hbt
    obtain ⟨G, hG⟩ : ∃ G, G = Go.bits .or .u64 x (shl .u64 (IntKind.u64.wrap ((c % 128 : Nat) : Int)) (7 * (i : Int))) := ⟨_, rfl⟩
    have hGr : 0 ≤ G ∧ G < 18446744073709551616 := by
      rw [hG]
      exact u64_or_range x _ h0 h1 (shl_range _ _).1 (shl_range _ _).2
    have hnext : ∀ n, n < 18446744073709551616 → ∀ r, bl s = vary n ++ r → c % 128 = n / 128 ^ i % 128 ∧ (128 ≤ c ↔ i + 1 < (vary n).length) ∧ G = ((n % 128 ^ (i + 1) : Nat) : Int) := by
      intro n hn' r hs
      obtain ⟨g1, g2⟩ := hn n hn' r hs
      have e : (bl s)[i]? = (vary n)[i]? := by rw [hs, List.getElem?_append_left g1]
      rw [hc, vary_get i n g1] at e
      have e := Option.some.inj e
      have e2 : c % 128 = n / 128 ^ i % 128 := by clear hG; rw [e]; split <;> omega
      refine ⟨e2, ?_, ?_⟩
      · clear hG; rw [e]; split <;> omega
      · rw [hG, e2, g2]; exact acc_or n i hn' g1
    rw [← hG]
    clear hG
    by_cases h128 : 128 ≤ c
    · rw [if_pos (show ((c : Nat) : Int) ≥ 128 by omega)]
      refine ih k (i + 1) _ (by omega) hGr.1 hGr.2 (by omega) ?_ ?_
      · intro j hj
        by_cases hji : j < i
        · exact hall j hji
        · obtain rfl : j = i := by omega
          exact ⟨c, hc, h128⟩
      · intro n hn' r hs
        obtain ⟨_, g2, g3⟩ := hnext n hn' r hs
        exact ⟨g2.1 h128, g3⟩
    · rw [if_neg (show ¬ ((c : Nat) : Int) ≥ 128 by omega), if_pos (show (0 : Int) ≤ ((i + 1 : Nat) : Int) by omega), if_pos (show ((i + 1 : Nat) : Int) ≤ (s.size : Int) by omega)]
      obtain ⟨m, rfl⟩ := Int.eq_ofNat_of_zero_le hGr.1
      rw [Vary_f (by omega) (by omega)]
      simp only [Option.bind_some]
      rw [show (((i + 1 : Nat) : Int)).toNat = i + 1 by omega]
      by_cases he : (s.extract 0 (i + 1)).toList = (vs m).toList
      · rw [if_pos he]
        refine ⟨_, rfl, .good m _ (by omega) ?_⟩
        have e1 : bl (s.extract 0 (i + 1)) = vary m := by rw [toList_iff.1 he, bl_vs]
        rw [bl_extract, List.drop_zero] at e1
        rw [← e1, bl_drop, List.take_append_drop]
      · rw [if_neg he]
        refine ⟨_, rfl, .bad fun n hn' r hs => he ?_⟩
        obtain ⟨g1, g2, g3⟩ := hnext n hn' r hs
        have g4 := (hn n hn' r hs).1
        have hl : (vary n).length = i + 1 := by omega
        have hnm : n % 128 ^ (i + 1) = n := Nat.mod_eq_of_lt (by
          rcases Nat.lt_or_ge n (128 ^ (i + 1)) with h | h
          · exact h
          · have := vary_len_gt (i + 1) n h; omega)
        rw [hnm] at g3
        have : m = n := by omega
        subst this
        rw [toList_iff]
        apply bl_inj
        rw [bl_vs, bl_extract, List.drop_zero, hs, ← hl, List.take_left]
theorem ReaderVary_f (s : ByteArray) (b : Bool) (hz : s.size ≤ 9223372036854775807) {k : Nat} (hk : 22 ≤ k) :
    ∃ r, pack_Reader_Vary.f k s b = some r ∧ (b = false → VaryRes s r) ∧ (b = true → r = (0, ⟨#[]⟩, true)) := by
  unfold pack_Reader_Vary.f
  cases b with
  | true => exact ⟨_, rfl, (fun h => by cases h), (fun _ => rfl)⟩
  | false =>
    obtain ⟨r, h1, h2⟩ := varyR_loop s false hz (min s.size 10) k 0 0 (by omega) (by omega) (by omega) (by omega) (fun j hj => by omega) (fun n _ r _ => ⟨vary_pos n, by simp [Nat.mod_one]⟩)
    exact ⟨r, by rw [if_neg (by simp)]; exact h1, (fun _ => h2), (fun h => by cases h)⟩
/-- From now on: enough rounds are 22. -/
theorem ReaderVary_good {s : ByteArray} {n : Nat} {rest : ByteArray} (hz : s.size ≤ 9223372036854775807) (hn : n < 18446744073709551616) (hs : bl s = vary n ++ bl rest) {k : Nat} (hk : 22 ≤ k) :
    pack_Reader_Vary.f k s false = some ((n : Int), rest, false) := by
  obtain ⟨r, h1, h2, _⟩ := ReaderVary_f s false hz hk
  rw [h1, VaryRes.unique (h2 rfl) (.good n rest hn hs)]
theorem ReaderVary_bad {s : ByteArray} (hz : s.size ≤ 9223372036854775807) (h : ∀ n, n < 18446744073709551616 → ∀ r, bl s ≠ vary n ++ r) {k : Nat} (hk : 22 ≤ k) :
    pack_Reader_Vary.f k s false = some (0, ⟨#[]⟩, true) := by
  obtain ⟨r, h1, h2, _⟩ := ReaderVary_f s false hz hk
  rw [h1, VaryRes.unique (h2 rfl) (.bad h)]
theorem ReaderVary_true {s : ByteArray} (hz : s.size ≤ 9223372036854775807) {k : Nat} (hk : 22 ≤ k) : pack_Reader_Vary.f k s true = some (0, ⟨#[]⟩, true) := by
  obtain ⟨r, h1, _, h2⟩ := ReaderVary_f s true hz hk
  rw [h1, h2 rfl]

theorem vary_step {s : ByteArray} {b : Bool} (hz : s.size ≤ 9223372036854775807) {k : Nat} (hk : 22 ≤ k) :
    ∃ v t c, pack_Reader_Vary.f k s b = some (v, t, c) ∧ t.size ≤ s.size ∧ (c = false → b = false ∧ ∃ n, n < 18446744073709551616 ∧ v = (n : Nat) ∧ bl s = vary n ++ bl t) := by
  cases b with
  | true => exact ⟨_, _, _, ReaderVary_true hz hk, Nat.zero_le _, fun h => absurd h (by simp)⟩
  | false =>
    obtain ⟨r, h1, h2, _⟩ := ReaderVary_f s false hz hk
    cases h2 rfl with
    | good n rest hn hs =>
      refine ⟨_, _, _, h1, ?_, fun _ => ⟨rfl, n, hn, rfl, hs⟩⟩
      rw [← bl_length, ← bl_length, hs]; simp
    | bad h => exact ⟨_, _, _, h1, Nat.zero_le _, fun h => absurd h (by simp)⟩
end Go.Proofs.Ytoogchgoiciggaa.Pure
