-- Written by this session's own driver (wip/hybrid.py) of the kit's printer; contracts marked FOREIGN are by hand.
import Derived.Test.YtdlagefpglhdoaaDoorQx0
import Derived.Test.YtdlagefpglhdoaaDoorQxf44
import Derived.Test.YtdlagefpglhdoaaDoorShelf
namespace Go.Proofs.YtdlagefpglhdoaaDoor.Q
open Go.RowKit Go.Proofs.YtdlagefpglhdoaaDoorW.PrintWords Go.Proofs.YtdlagefpglhdoaaDoorW.PrintLast Go.Proofs.YtdlagefpglhdoaaDoorW.PrintMore
attribute [local go_sem] max2_int min2_int max_two min_two max_three min_three max_four min_four   -- for this text's walks alone
set_option linter.unusedVariables false
set_option linter.unusedSimpArgs false

/-! ### vec_Text: function 52 -/
-- FOREIGN: decimal numerals by the library, joined
def vec_Text.dd : Nat → Nat → List UInt8
  | 0, _ => []
  | k + 1, n => if n < 10 then [UInt8.ofNat (48 + n)] else vec_Text.dd k (n / 10) ++ [UInt8.ofNat (48 + n % 10)]
def vec_Text.num (n : Nat) : ByteArray := ⟨(vec_Text.dd 20 n).toArray⟩
def vec_Text.com : ByteArray := ⟨#[44]⟩
def vec_Text.txt (a b c d : Nat) : ByteArray := vec_Text.num a ++ vec_Text.com ++ vec_Text.num b ++ vec_Text.com ++ vec_Text.num c ++ vec_Text.com ++ vec_Text.num d
def vec_Text.f (a0_0 a0_1 a0_2 a0_3 : Int) : Option ByteArray :=
  if (0 ≤ a0_0 ∧ a0_0 < 100) ∧ (0 ≤ a0_1 ∧ a0_1 < 100) ∧ (0 ≤ a0_2 ∧ a0_2 < 100) ∧ (0 ≤ a0_3 ∧ a0_3 < 100) then some (vec_Text.txt a0_0.toNat a0_1.toNat a0_2.toNat a0_3.toNat) else none
theorem vec_Text.dd_eq : ∀ k n : Nat, 0 < k → n < 10 ^ k → vec_Text.dd k n = Lib.decDigits n
  | 0, _, h, _ => absurd h (by omega)
  | k + 1, n, _, h => by
    rw [vec_Text.dd, Lib.decDigits]
    by_cases c : n < 10
    · rw [if_pos c, dif_pos c]
    · rw [if_neg c, dif_neg c]
      rw [Nat.pow_succ] at h
      have hk : 0 < k := by
        rcases Nat.eq_zero_or_pos k with rfl | hk
        · simp at h; omega
        · exact hk
      rw [vec_Text.dd_eq k (n / 10) hk (by omega)]
theorem vec_Text.num_eq {n : Nat} (h : n < 18446744073709551616) : vec_Text.num n = ⟨(Lib.decDigits n).toArray⟩ := by
  unfold vec_Text.num
  rw [vec_Text.dd_eq 20 n (by omega) (by omega)]
theorem vec_Text.num_len {n : Nat} (h : n < 18446744073709551616) : (vec_Text.num n).data.toList.length ≤ 20 := by
  rw [vec_Text.num_eq h]
  simp only [List.toList_toArray]
  rw [Lib.decDigits_length]
  have := Lib.lt_pow_nDigits n
  rcases Nat.eq_zero_or_pos n with rfl | h1
  · rw [Lib.nDigits_small (by omega)]; omega
  · have := Lib.numDigits_eq n h1 h
    split at this <;> omega
theorem vec_Text.join_eq (x y z u : ByteArray) : (⟨(Lib.join ([x, y, z, u].map (·.data.toList)) (⟨#[44]⟩ : ByteArray).data.toList).toArray⟩ : ByteArray) = x ++ vec_Text.com ++ y ++ vec_Text.com ++ z ++ vec_Text.com ++ u := by
  apply ByteArray.ext
  apply Array.toList_inj.1
  simp [Lib.join, List.intercalate, vec_Text.com, ByteArray.data_append]
theorem vec_Text.small (i : Nat) (hi : i < 100) (w : World) :
    Calls Tryd.prog 68 #[.int .u64 (i : Int), .int .i64 10] w fun e w' => e = .returned (.string (vec_Text.num i)) ∧ w' = w := by
  have hlt : decide ((i : Int) < 100) = true := decide_eq_true (by omega)
  have hw : IntKind.i64.wrap (i : Int) = (i : Int) := by
    rw [IntKind.wrap_i64]
    omega
  rw [vec_Text.num_eq (by omega)]
  go_enter Tryd.func68, Tryd.ntmps68
  go_wp2_with (first | (go_at_call 79; refine (Tryd.internal_strconv_small i hi _).mono ?_; rintro e w' ⟨rfl, rfl⟩) | go_in)
  go_ret
  exact ⟨rfl, rfl⟩
theorem vec_Text.cells_ {e base : Nat} {ok : Nat → Prop} {w : World} {v : Value} {xs : List ByteArray} (h : Kd.string.R e w base ok v xs) (hp : 0 < xs.length) :
    ∃ g cap, v = .slice (some ⟨g, 0, none⟩) xs.length cap ∧ xs.length ≤ cap ∧ g < w.heap.size ∧ ∀ (j : Nat) x, xs[j]? = some x → w.cell? ⟨g, 0 + j, none⟩ = some (.string x) := by
  obtain ⟨g, cap, rfl, _, hg, _⟩ := Kd.R_form h hp
  obtain ⟨A, c, he, hc, hC⟩ := Kd.R_reads h
  injection he with e1 e2 e3
  subst e1 e3
  obtain ⟨ad, e, hcell⟩ := hC.2.2 hp
  cases e
  refine ⟨g, cap, rfl, hc, hg, fun j x hx => ?_⟩
  obtain ⟨c, hl, hk, hi⟩ := hcell j x hx
  have hk : c = [.string x] := hk
  have := hi 0 (.string x) (by rw [hk]; rfl)
  have e0 : (⟨g, 0, none⟩ : Addr).add (j * Kd.string.sz + 0) = ⟨g, 0 + j, none⟩ := by
    show (⟨g, 0, none⟩ : Addr).add (j * 1 + 0) = _
    rw [add_plain, Nat.mul_one, Nat.add_zero, Nat.zero_add]
  rwa [e0] at this
set_option maxHeartbeats 8000000 in
set_option maxRecDepth 100000 in
theorem vec_Text.text (a b c d : Nat) (ha : a < 18446744073709551616) (hb : b < 18446744073709551616) (hc : c < 18446744073709551616) (hd : d < 18446744073709551616) (w : World)
    (hF : ∀ W : World, Below w.heap.size w W → ∀ n : Nat, n = a ∨ n = b ∨ n = c ∨ n = d → Calls Tryd.prog 68 #[.int .u64 (n : Int), .int .i64 10] W fun e w' => e = .returned (.string (vec_Text.num n)) ∧ Below W.heap.size W w') :
    Calls Tryd.prog 52 #[.agg #[.int .u64 (a : Int), .int .u64 (b : Int), .int .u64 (c : Int), .int .u64 (d : Int)]] w fun e w' => e = .returned (.string (vec_Text.txt a b c d)) ∧ Below w.heap.size w w' := by
  have hu := Tryd.underlying24
  have hu2 := Tryd.underlying22
  have infos : (Tryd.prog.info? 9).map (fun i => (i.zero, i.size, i.bytes)) = some (some (.string ⟨#[]⟩), 1, 16) := by kernel_rfl
  have x0 := fun W => vec_Sum.at_ #[.int .u64 (a : Int), .int .u64 (b : Int), .int .u64 (c : Int), .int .u64 (d : Int)] rfl 0 (.int .u64 a) W rfl
  have x1 := fun W => vec_Sum.at_ #[.int .u64 (a : Int), .int .u64 (b : Int), .int .u64 (c : Int), .int .u64 (d : Int)] rfl 1 (.int .u64 b) W rfl
  have x2 := fun W => vec_Sum.at_ #[.int .u64 (a : Int), .int .u64 (b : Int), .int .u64 (c : Int), .int .u64 (d : Int)] rfl 2 (.int .u64 c) W rfl
  have x3 := fun W => vec_Sum.at_ #[.int .u64 (a : Int), .int .u64 (b : Int), .int .u64 (c : Int), .int .u64 (d : Int)] rfl 3 (.int .u64 d) W rfl
  simp only [Int.ofNat_eq_natCast, Int.cast_ofNat_Int] at x0 x1 x2 x3
  have hFa := fun W h => hF W h a (Or.inl rfl)
  have hFb := fun W h => hF W h b (Or.inr (Or.inl rfl))
  have hFc := fun W h => hF W h c (Or.inr (Or.inr (Or.inl rfl)))
  have hFd := fun W h => hF W h d (Or.inr (Or.inr (Or.inr rfl)))
  have la := vec_Text.num_len ha
  have lb := vec_Text.num_len hb
  have lc := vec_Text.num_len hc
  have ld := vec_Text.num_len hd
  clear hF ha hb hc hd
  unfold vec_Text.txt
  generalize vec_Text.num a = sa at *
  generalize vec_Text.num b = sb at *
  generalize vec_Text.num c = sc at *
  generalize vec_Text.num d = sd at *
  go_enter Tryd.func52, Tryd.ntmps52
  go_wp2
  generalize hW : (w.alloc (Obj.cells _ _)) = W0
  have HB0 : Below w.heap.size w W0 := by rw [← hW]; exact below_alloc (Below.refl _ _) _
  replace HB0 := Aside0.mk HB0
  clear hW
  refine wp_loop_rounds 5 ?_
  rw [rounds_succ]
  go_wp2_with (first
    | (go_at_call 68; refine (hFa _ HB0.out).mono ?_; rintro e w1 ⟨rfl, hb⟩; have HB1 := Aside0.mk (below_step HB0.out hb); clear hb)
    | ((with_reducible refine gate_builtin (b := .append) (xs := #[.tmp 10, .tmp 13]) rfl ?_); at_builtin
       refine Kd.R_append Kd.string (w0 := w) w.heap.size rfl (.tmp 10) (.tmp 13) 104 9 (.string ⟨#[]⟩) 16 rfl Tryd.underlying104 infos rfl (by decide) (by decide) (.slice none 0 0) [] sa [.string sa] (fun _ => True) (fun _ => False) rfl rfl rfl (fun _ hk => hk.elim) (fun _ _ => trivial) (Kd.R_nil _ _ _ _ _) HB1.out (below_size HB1.out) (by simp) ?_
       intro v1 w2 ho1 hb1 _ _; have HO1 := Aside0.mk ho1; have HB2 := Aside0.mk hb1; clear ho1 hb1))
  rw [rounds_succ]
  go_wp2_with (first
    | (go_at_call 68; refine (hFb _ HB2.out).mono ?_; rintro e w3 ⟨rfl, hb⟩; have HB3 := Aside0.mk (below_step HB2.out hb); have HO2 := Aside0.mk (Kd.R_below HO1.out hb); clear hb)
    | ((with_reducible refine gate_builtin (b := .append) (xs := #[.tmp 10, .tmp 13]) rfl ?_); at_builtin
       refine Kd.R_append Kd.string (w0 := w) w.heap.size rfl (.tmp 10) (.tmp 13) 104 9 (.string ⟨#[]⟩) 16 rfl Tryd.underlying104 infos rfl (by decide) (by decide) v1 ([] ++ [sa]) sb [.string sb] (fun _ => True) (fun _ => False) rfl rfl rfl (fun _ hk => hk.elim) (fun _ _ => trivial) HO2.out HB3.out (below_size HB3.out) (by simp) ?_
       intro v2 w4 ho1 hb1 _ _; have HO3 := Aside0.mk ho1; have HB4 := Aside0.mk hb1; clear ho1 hb1))
  rw [rounds_succ]
  go_wp2_with (first
    | (go_at_call 68; refine (hFc _ HB4.out).mono ?_; rintro e w5 ⟨rfl, hb⟩; have HB5 := Aside0.mk (below_step HB4.out hb); have HO4 := Aside0.mk (Kd.R_below HO3.out hb); clear hb)
    | ((with_reducible refine gate_builtin (b := .append) (xs := #[.tmp 10, .tmp 13]) rfl ?_); at_builtin
       refine Kd.R_append Kd.string (w0 := w) w.heap.size rfl (.tmp 10) (.tmp 13) 104 9 (.string ⟨#[]⟩) 16 rfl Tryd.underlying104 infos rfl (by decide) (by decide) v2 ([] ++ [sa] ++ [sb]) sc [.string sc] (fun _ => True) (fun _ => False) rfl rfl rfl (fun _ hk => hk.elim) (fun _ _ => trivial) HO4.out HB5.out (below_size HB5.out) (by simp) ?_
       intro v3 w6 ho1 hb1 _ _; have HO5 := Aside0.mk ho1; have HB6 := Aside0.mk hb1; clear ho1 hb1))
  rw [rounds_succ]
  go_wp2_with (first
    | (go_at_call 68; refine (hFd _ HB6.out).mono ?_; rintro e w7 ⟨rfl, hb⟩; have HB7 := Aside0.mk (below_step HB6.out hb); have HO6 := Aside0.mk (Kd.R_below HO5.out hb); clear hb)
    | ((with_reducible refine gate_builtin (b := .append) (xs := #[.tmp 10, .tmp 13]) rfl ?_); at_builtin
       refine Kd.R_append Kd.string (w0 := w) w.heap.size rfl (.tmp 10) (.tmp 13) 104 9 (.string ⟨#[]⟩) 16 rfl Tryd.underlying104 infos rfl (by decide) (by decide) v3 ([] ++ [sa] ++ [sb] ++ [sc]) sd [.string sd] (fun _ => True) (fun _ => False) rfl rfl rfl (fun _ hk => hk.elim) (fun _ _ => trivial) HO6.out HB7.out (below_size HB7.out) (by simp) ?_
       intro v4 w8 ho1 hb1 _ _; have HO7 := Aside0.mk ho1; have HB8 := Aside0.mk hb1; clear ho1 hb1))
  obtain ⟨g, cap, hv, hcap, hg, hcell⟩ := vec_Text.cells_ HO7.out (by simp)
  have hjoin := Tryd.strings_Join g 0 cap ([] ++ [sa] ++ [sb] ++ [sc] ++ [sd]) (⟨#[44]⟩ : ByteArray) w8 hcell hg (by show 4 ≤ 140737488355328; omega) hcap (by
    show (Lib.join ([sa, sb, sc, sd].map (·.data.toList)) (⟨#[44]⟩ : ByteArray).data.toList).length ≤ _
    simp only [List.map_cons, List.map_nil]
    rw [Lib.join_length]
    have zl : ∀ x : ByteArray, x.data.toList.length = x.size := fun x => Array.length_toList
    simp only [zl] at la lb lc ld
    simp [Lib.lens]
    omega)
  have hjoin := show Calls Tryd.prog 69 _ w8 (fun e w' => e = .returned (.string ⟨(Lib.join ([sa, sb, sc, sd].map (·.data.toList)) (⟨#[44]⟩ : ByteArray).data.toList).toArray⟩) ∧ Below w8.heap.size w8 w') from hjoin
  rw [vec_Text.join_eq sa sb sc sd] at hjoin
  clear hcell hg hcap
  subst hv
  rw [rounds_succ]
  go_wp2_with (go_at_call 69; refine hjoin.mono ?_; rintro e w9 ⟨rfl, hb⟩; have HB9 := Aside0.mk (below_step HB8.out hb); clear hb)
  go_ret
  exact ⟨by first | rfl | simp, HB9.out⟩
theorem vec_Text.calls (a0_0 a0_1 a0_2 a0_3 : Int) (r : ByteArray) (w : World) (h : vec_Text.f a0_0 a0_1 a0_2 a0_3 = some r) :
    Calls Tryd.prog 52 #[.agg #[.int .u64 a0_0, .int .u64 a0_1, .int .u64 a0_2, .int .u64 a0_3]] w fun e w' => e = .returned (.string r) ∧ Below w.heap.size w w' := by
  unfold vec_Text.f at h
  by_cases c : (0 ≤ a0_0 ∧ a0_0 < 100) ∧ (0 ≤ a0_1 ∧ a0_1 < 100) ∧ (0 ≤ a0_2 ∧ a0_2 < 100) ∧ (0 ≤ a0_3 ∧ a0_3 < 100)
  · rw [if_pos c] at h
    obtain rfl := Option.some.inj h
    obtain ⟨a, rfl⟩ := Int.eq_ofNat_of_zero_le c.1.1
    obtain ⟨b, rfl⟩ := Int.eq_ofNat_of_zero_le c.2.1.1
    obtain ⟨d, rfl⟩ := Int.eq_ofNat_of_zero_le c.2.2.1.1
    obtain ⟨e, rfl⟩ := Int.eq_ofNat_of_zero_le c.2.2.2.1
    simp only [Int.toNat_natCast]
    refine vec_Text.text a b d e (by omega) (by omega) (by omega) (by omega) w (fun W _ n hn => ?_)
    refine (vec_Text.small n (by omega) W).mono ?_
    rintro e w' ⟨rfl, rfl⟩
    exact ⟨rfl, Below.refl _ _⟩
  · rw [if_neg c] at h
    exact absurd h (by simp)


end Go.Proofs.YtdlagefpglhdoaaDoor.Q
