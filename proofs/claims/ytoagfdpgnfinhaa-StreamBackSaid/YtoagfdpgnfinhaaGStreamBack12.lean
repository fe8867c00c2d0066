import Derived.Test.YtoagfdpgnfinhaaGStreamBack11
import Derived.Test.YtoagfdpgnfinhaaGStreamBack6
import Derived.Test.YtoagfdpgnfinhaaGStreamBack7
import Derived.Test.YtoagfdpgnfinhaaGStreamBack8
set_option linter.unusedVariables false
set_option linter.unusedSimpArgs false
namespace Go.Proofs.Ytoagfdpgnfinhaa.Pure
open Go.RowKit Go.Proofs.Ytoagfdpgnfinhaa.Q Go.Proofs.YtoagfdpgnfinhaaW.PrintWords Go.Proofs.YtoagfdpgnfinhaaW.PrintLast Go.Proofs.YtoagfdpgnfinhaaW.PrintMore Go.Proofs.Ytoagfdpgnfinhaa.Plain Go.Proofs.Ytoagfdpgnfinhaa.CrcN
def mine (kind frm n a b c g e : Nat) (xs : List Wr) : Prop :=
 1 ≤ frm ∧ frm ≤ 4 ∧ n ≤ 8 ∧ (∀ x ∈ xs, fits x) ∧ xs.length ≤ 8 ∧ ((kind = 1 ∧ wh a b c g e xs = true ∧ (n : Int) = own a b c g e) ∨ (kind = 2 ∧ a = 0 ∧ b = 0 ∧ c = 0 ∧ g = 0 ∧ e = 0 ∧ xs = []))
theorem same_zero : sameT 0 0 0 0 0 [] 0 0 0 0 0 [] = true := by decide
theorem mine_ok {kind frm n a b c g e : Nat} {xs : List Wr} (hM : mine kind frm n a b c g e xs) : okM kind frm n a b c g e xs = true := by
 obtain ⟨f1, f4, hn, hf, h8, hcase⟩ := hM
 unfold okM
 rw [decide_eq_true (show 1 ≤ (frm : Int) ∧ (frm : Int) ≤ 4 by omega), Bool.true_and]
 rcases hcase with ⟨rfl, hw, hn⟩ | ⟨rfl, rfl, rfl, rfl, rfl, rfl, rfl⟩
 ·rw [if_pos (show ((1 : Nat) : Int) = 1 from rfl), hw, decide_eq_true hn]; rfl
 ·rw [if_neg (show ¬ ((2 : Nat) : Int) = 1 by decide), if_pos (show ((2 : Nat) : Int) = 2 from rfl), decide_eq_true (by omega)]
  exact same_zero
theorem own4 {a b c g : Nat} (e : Int) (h : a ≤ 4 ∧ b ≤ 4 ∧ c ≤ 4 ∧ g ≤ 4) : ∃ n : Nat, own a b c g e = (n : Int) ∧ n ≤ 4 := by
 unfold own
 split
 ·exact ⟨a, rfl, h.1⟩
 split
 ·exact ⟨b, rfl, h.2.1⟩
 split
 ·exact ⟨c, rfl, h.2.2.1⟩
 split
 ·exact ⟨g, rfl, h.2.2.2⟩
 ·exact ⟨0, rfl, by omega⟩
theorem letter_own (kd fr n0 v0 v1 v2 v3 d : Int) (hn : (Lit.int .u64 n0).wf = true) (h0 : (Lit.int .u64 v0).wf = true) (h1 : (Lit.int .u64 v1).wf = true) (h2 : (Lit.int .u64 v2).wf = true) (o q : Bool) (l : List Pt) (hl : ∀ p ∈ l, fits p.f0) (hz : l.length ≤ 4611686018427387904) {K : Nat} (hK : (l.length + 1) * 15 + 10 ≤ K) :
  ∃ (kind frm n a b c g e : Nat) (xs : List Wr), tenementlaw15_Letter_letter.f K kd fr n0 v0 v1 v2 v3 d o l q true = some ((kind : Int), (frm : Int), (n : Int), (a : Int), (b : Int), (c : Int), (g : Int), (e : Int), xs) ∧ mine kind frm n a b c g e xs := by
 obtain ⟨a, b, c, g, e, xs, ed, hw, hf, h8, h4⟩ := deal_own4 v0 v1 v2 v3 d h0 h1 h2 o l hl hz hK
 obtain ⟨m, em, hm⟩ := own4 (e : Int) h4
 have hn := u64_of hn
 unfold tenementlaw15_Letter_letter.f
 have hk : 0 ≤ IntKind.u64.wrap kd := by rw [IntKind.wrap_u64]; omega
 have hg : 0 ≤ IntKind.u64.wrap fr := by rw [IntKind.wrap_u64]; omega
 rw [if_pos rfl, Int.tmod_eq_emod_of_nonneg hk, Int.tmod_eq_emod_of_nonneg hg, Int.tmod_eq_emod_of_nonneg hn.1]
 generalize IntKind.u64.wrap kd = u at hk ⊢
 generalize IntKind.u64.wrap fr = w at hg ⊢
 rw [wrap64_id (x := u % 2) (by omega) (by omega), wrap64_id (x := w % 4) (by omega) (by omega), wrap64_id (x := 1 + u % 2) (by omega) (by omega), wrap64_id (x := 1 + w % 4) (by omega) (by omega)]
 obtain ⟨f, ef, hf1, hf4⟩ : ∃ f : Nat, 1 + w % 4 = (f : Int) ∧ 1 ≤ f ∧ f ≤ 4 := ⟨(1 + w % 4).toNat, by omega, by omega, by omega⟩
 rw [ef]
 by_cases c1 : 1 + u % 2 = 1
 ·rw [if_pos c1, ed, Option.bind_some, stampN, Option.bind_some, c1, em]
  exact ⟨1, f, m, a, b, c, g, e, xs, rfl, hf1, hf4, by omega, hf, h8, Or.inl ⟨rfl, hw, em.symm⟩⟩
 ·rw [if_neg c1, show 1 + u % 2 = 2 by omega]
  obtain ⟨m9, e9, h9⟩ : ∃ m9 : Nat, n0 % 9 = (m9 : Int) ∧ m9 ≤ 8 := ⟨(n0 % 9).toNat, by omega, by omega⟩
  rw [e9]
  exact ⟨2, f, m9, 0, 0, 0, 0, 0, [], rfl, hf1, hf4, h9, by simp, by simp, Or.inr ⟨rfl, rfl, rfl, rfl, rfl, rfl, rfl⟩⟩
end Go.Proofs.Ytoagfdpgnfinhaa.Pure

set_option linter.unusedVariables false
set_option linter.unusedSimpArgs false
namespace Go.Proofs.Ytoagfdpgnfinhaa.Pure
open Go.RowKit Go.Proofs.Ytoagfdpgnfinhaa.Q Go.Proofs.YtoagfdpgnfinhaaW.PrintWords Go.Proofs.YtoagfdpgnfinhaaW.PrintLast Go.Proofs.YtoagfdpgnfinhaaW.PrintMore Go.Proofs.Ytoagfdpgnfinhaa.Plain
theorem text_step {s : ByteArray} {b : Bool} (hz : s.size ≤ 9223372036854775807) (most : Int) (hm : 0 ≤ most) {k : Nat} (hk : 22 ≤ k) :
  ∃ t u c, pack_Reader_Text.f k s b most = some (t, u, c) ∧ u.size ≤ s.size ∧ (t.size : Int) ≤ most ∧ (c = false → b = false ∧ bl s = vary t.size ++ (bl t ++ bl u)) := by
 have z : (⟨#[]⟩ : ByteArray).size = 0 := rfl
 cases b with
 | true => exact ⟨_, _, _, ReaderText_true hz hk, by omega, by omega, fun h => absurd h (by simp)⟩
 | false =>
  obtain ⟨r, h1, h2⟩ := ReaderText_f s most hz hk
  cases h2 with
  | good t u hs ht =>
   refine ⟨_, _, _, h1, ?_, ht, fun _ => ⟨rfl, by rw [hs, List.append_assoc]⟩⟩
   have := congrArg List.length hs
   simp only [List.length_append, bl_length] at this
   omega
  | bad h => exact ⟨_, _, _, h1, by omega, by omega, fun h => absurd h (by simp)⟩
theorem num_step {s : ByteArray} {b : Bool} (hz : s.size ≤ 9223372036854775807) :
  ∃ (n : Nat) (u : ByteArray) (c : Bool), pack_Reader_Number.f s b 1 = some ((n : Int), u, c) ∧ u.size ≤ s.size ∧ n < 256 ∧ ((c = true ∧ n = 0) ∨ (c = false ∧ b = false ∧ bl s = n :: bl u)) := by
 have z : (⟨#[]⟩ : ByteArray).size = 0 := rfl
 by_cases h : b = true ∨ (s.size : Int) < 1
 ·exact ⟨0, _, _, ReaderNumber_bad (h.elim Or.inl (fun h => Or.inr (Or.inr (Or.inr h)))) hz, by omega, by omega, Or.inl ⟨rfl, rfl⟩⟩
 ·have hb : b = false := by cases b with | true => exact absurd (Or.inl rfl) h | false => rfl
  subst hb
  have hs : ¬ (s.size : Int) < 1 := fun c => h (Or.inr c)
  have e1 := ReaderNumber_good (s := s) (k := 1) (by omega) (by omega) (by omega) hz
  have hd : bl (s.extract (1 : Int).toNat s.size) = (bl s).drop 1 := bl_drop s 1
  have hzd : (s.extract (1 : Int).toNat s.size).size ≤ s.size := by simp
  obtain ⟨x, l, hl⟩ : ∃ x l, bl s = x :: l := by
   cases hx : bl s with
   | nil => exact absurd (by rw [← bl_length, hx]; decide) hs
   | cons x l => exact ⟨x, l, rfl⟩
  have lx : x < 256 := bl_lt s x (by rw [hl]; simp)
  have ex : ((bev ((bl s).take (1 : Int).toNat) : Nat) : Int) = (x : Int) := by
   rw [hl]
   show ((bev [x] : Nat) : Int) = _
   rw [bev_one]
  rw [hl] at hd
  rw [ex] at e1
  exact ⟨x, _, _, e1, hzd, lx, Or.inr ⟨rfl, rfl, by rw [hl, hd]; rfl⟩⟩
theorem num_good {s u : ByteArray} {n : Nat} (hz : s.size ≤ 9223372036854775807) (hs : bl s = n :: bl u) : pack_Reader_Number.f s false 1 = some ((n : Int), u, false) := by
 obtain ⟨m, t, c, e, _, _, h⟩ := num_step (s := s) (b := false) hz
 rcases h with ⟨rfl, _⟩ | ⟨rfl, _, h⟩
 ·exfalso
  have hl := congrArg List.length hs
  rw [bl_length, List.length_cons] at hl
  rw [ReaderNumber_good (s := s) (k := 1) (by omega) (by omega) (by omega) hz] at e
  simp at e
 ·rw [hs, List.cons.injEq] at h
  rw [e, ← h.1, bl_inj h.2]
abbrev Got := Int × Int × Int × Int × Int × List Wr × Bool
theorem iread_end (a b c g e : Int) (m : Int) (acc : List Wr) (hx : ∀ x ∈ acc, fits x) (hl : acc.length ≤ 1000) (t : ByteArray) (bad : Bool) {K : Nat} (hK : 1 ≤ K) :
  ∃ r : Got, item_Read.j1 K m false a b c g e acc t bad = some r ∧ (r.2.2.2.2.2.2 = false → r = (0, 0, 0, 0, 0, [], false)) ∧ (r.2.2.2.2.2.2 = true → bad = false ∧ t = ⟨#[]⟩ ∧ r = (a, b, c, g, e, acc, true) ∧ wh a b c g e acc = true) := by
 obtain ⟨K, rfl⟩ : ∃ q, K = q + 1 := ⟨K - 1, by omega⟩
 rw [item_Read.j1, if_neg (by simp), Done_f, Option.bind_some]
 by_cases h : (!bad && decide (t = ⟨#[]⟩)) = true
 ·rw [if_pos h, whole_f a b c g e acc hx (by omega), Option.bind_some]
  simp only [Bool.and_eq_true, Bool.not_eq_true', decide_eq_true_eq] at h
  by_cases w : wh a b c g e acc = true
  ·rw [if_pos w]
   exact ⟨_, rfl, fun h => absurd h (by simp), fun _ => ⟨h.1, h.2, rfl, w⟩⟩
  ·rw [if_neg w]
   exact ⟨_, rfl, fun _ => rfl, fun h => absurd h (by simp)⟩
 ·rw [if_neg h]
  exact ⟨_, rfl, fun _ => rfl, fun h => absurd h (by simp)⟩
theorem iread_loop (a b c g e : Int) : ∀ (m : Nat) (K : Nat) (acc : List Wr) (t : ByteArray) (bad : Bool), t.size ≤ 9223372036854775807 → m + acc.length ≤ 300 → (∀ x ∈ acc, fits x) → 2 * m + 30 ≤ K →
  ∃ r : Got, item_Read.l0 K (m : Int) a b c g e acc t bad = some r ∧ (r.2.2.2.2.2.2 = false → r = (0, 0, 0, 0, 0, [], false)) ∧ (r.2.2.2.2.2.2 = true → bad = false ∧ ∃ ys : List Wr, ys.length = m ∧ bl t = ys.flatMap WL ∧ r = (a, b, c, g, e, acc ++ ys, true) ∧ wh a b c g e (acc ++ ys) = true) := by
 intro m
 induction m with
 | zero =>
  intro K acc t bad hz hl hx hK
  obtain ⟨K, rfl⟩ : ∃ q, K = q + 1 := ⟨K - 1, by omega⟩
  obtain ⟨r, e1, k1, h1⟩ := iread_end a b c g e 0 acc hx (by omega) t bad (K := K) (by omega)
  rw [item_Read.l0, if_neg (by omega)]
  refine ⟨r, e1, k1, fun h => ?_⟩
  obtain ⟨q1, q2, q3, q4⟩ := h1 h
  exact ⟨q1, [], rfl, by rw [q2]; rfl, by rw [q3, List.append_nil], by rw [List.append_nil]; exact q4⟩
 | succ m ih =>
  intro K acc t bad hz hl hx hK
  obtain ⟨K, rfl⟩ : ∃ q, K = q + 1 + 1 := ⟨K - 2, by omega⟩
  rw [item_Read.l0, if_pos (by omega)]
  cases bad with
  | true =>
   obtain ⟨r, e1, k1, h1⟩ := iread_end a b c g e ((m + 1 : Nat) : Int) acc hx (by omega) t true (K := K + 1) (by omega)
   exact ⟨r, e1, k1, fun h => absurd (h1 h).1 (by simp)⟩
  | false =>
   obtain ⟨t0, u0, c0, e0, z0, m0, h0⟩ := text_step (s := t) (b := false) hz 16 (by omega) (k := K) (by omega)
   obtain ⟨t1, u1, c1, e1, z1, m1, h1⟩ := text_step (s := u0) (b := c0) (by omega) 16 (by omega) (k := K) (by omega)
   obtain ⟨n, u2, c2, e2, z2, n2, h2⟩ := num_step (s := u1) (b := c1) (by omega)
   have z : (⟨#[]⟩ : ByteArray).size = 0 := rfl
   have hw : IntKind.u64.wrap (((m + 1 : Nat) : Int) - 1) = (m : Int) := by rw [wrap_u64 (by omega) (by omega)]; omega
   rw [show (!false) = true from rfl, item_Read.j1, if_pos rfl, e0, Option.bind_some]
   show ∃ r : Got, ((pack_Reader_Text.f K u0 c0 16).bind _) = some r ∧ _
   rw [e1, Option.bind_some]
   show ∃ r : Got, ((pack_Reader_Number.f u1 c1 1).bind _) = some r ∧ _
   rw [e2, Option.bind_some]
   show ∃ r : Got, (if (n : Int) > 1 then _ else _) = some r ∧ _
   by_cases n1 : (n : Int) > 1
   ·rw [if_pos n1]
    exact ⟨_, rfl, fun _ => rfl, fun h => absurd h (by simp)⟩
   ·rw [if_neg n1]
    show ∃ r : Got, (if (n : Int) = 1 then _ else _) = some r ∧ _
    by_cases n0 : (n : Int) = 1
    ·obtain rfl : n = 1 := by omega
     rw [if_pos n0, if_pos (by omega), hw]
     obtain ⟨r, e3, k3, h3⟩ := ih K (acc ++ [(⟨t0, t1, ⟨#[]⟩, (((1 : Nat) : Int) == 1)⟩ : Wr)]) u2 c2 (by omega) (by simp; omega) (by
      intro x hx1
      rcases List.mem_append.1 hx1 with hx1 | hx1
      ·exact hx x hx1
      ·rw [List.mem_singleton.1 hx1]
       exact ⟨show t0.size ≤ _ by omega, show t1.size ≤ _ by omega, show (⟨#[]⟩ : ByteArray).size ≤ _ by omega⟩) (by omega)
     refine ⟨r, e3, k3, fun h => ⟨rfl, ?_⟩⟩
     obtain ⟨q1, ys, q2, q3, q4, q5⟩ := h3 h
     subst q1
     rcases h2 with ⟨h2, _⟩ | ⟨_, h2, h4⟩
     ·exact absurd h2 (by simp)
     obtain ⟨h1, h5⟩ := h1 h2
     obtain ⟨_, h6⟩ := h0 h1
     refine ⟨(⟨t0, t1, ⟨#[]⟩, true⟩ : Wr) :: ys, by simp [q2], ?_, by rw [q4, List.append_assoc]; rfl, by rw [List.append_assoc] at q5; exact q5⟩
     rw [h6, h5, h4, q3, List.flatMap_cons]
     unfold WL
     simp
    ·obtain rfl : n = 0 := by omega
     obtain ⟨t2, u3, c3, e3, z3, m3, h3⟩ := text_step (s := u2) (b := c2) (by omega) 32 (by omega) (k := K) (by omega)
     rw [if_neg n0]
     show ∃ r : Got, ((pack_Reader_Text.f K u2 c2 32).bind _) = some r ∧ _
     rw [e3, Option.bind_some, if_pos (by omega), hw]
     obtain ⟨r, e4, k4, h4⟩ := ih K (acc ++ [(⟨t0, t1, t2, (((0 : Nat) : Int) == 1)⟩ : Wr)]) u3 c3 (by omega) (by simp; omega) (by
      intro x hx1
      rcases List.mem_append.1 hx1 with hx1 | hx1
      ·exact hx x hx1
      ·rw [List.mem_singleton.1 hx1]
       exact ⟨show t0.size ≤ _ by omega, show t1.size ≤ _ by omega, show t2.size ≤ _ by omega⟩) (by omega)
     refine ⟨r, e4, k4, fun h => ⟨rfl, ?_⟩⟩
     obtain ⟨q1, ys, q2, q3, q4, q5⟩ := h4 h
     obtain ⟨h3, h7⟩ := h3 q1
     subst h3
     rcases h2 with ⟨h2, _⟩ | ⟨_, h2, h4⟩
     ·exact absurd h2 (by simp)
     obtain ⟨h1, h5⟩ := h1 h2
     obtain ⟨_, h6⟩ := h0 h1
     refine ⟨(⟨t0, t1, t2, false⟩ : Wr) :: ys, by simp [q2], ?_, by rw [q4, List.append_assoc]; rfl, by rw [List.append_assoc] at q5; exact q5⟩
     rw [h6, h5, h4, h7, q3, List.flatMap_cons]
     unfold WL
     simp
theorem iread_good (a b c g e : Int) : ∀ (ys : List Wr) (K : Nat) (acc : List Wr) (t : ByteArray), t.size ≤ 9223372036854775807 → ys.length + acc.length ≤ 300 → (∀ x ∈ acc, fits x) → (∀ y ∈ ys, fits y) → (∀ y ∈ ys, okw y = true) → 2 * ys.length + 30 ≤ K → bl t = ys.flatMap WL →
  wh a b c g e (acc ++ ys) = true → item_Read.l0 K (ys.length : Int) a b c g e acc t false = some (a, b, c, g, e, acc ++ ys, true) := by
 intro ys
 induction ys with
 | nil =>
  intro K acc t hz hl hx _ _ hK ht hw
  obtain ⟨K, rfl⟩ : ∃ q, K = q + 1 + 1 := ⟨K - 2, by omega⟩
  rw [item_Read.l0, if_neg (by simp), item_Read.j1, if_neg (by simp), Done_f, Option.bind_some]
  obtain rfl : t = ⟨#[]⟩ := bl_nil.1 ht
  rw [List.append_nil] at hw ⊢
  rw [if_pos (by simp), whole_f a b c g e acc hx (by simp at hl; omega), Option.bind_some, if_pos hw]
 | cons y ys ih =>
  intro K acc t hz hl hx hy hok hK ht hw
  obtain ⟨K, rfl⟩ : ∃ q, K = q + 1 + 1 := ⟨K - 2, by omega⟩
  rw [List.length_cons] at hl hK ⊢
  have hw' : IntKind.u64.wrap (((ys.length + 1 : Nat) : Int) - 1) = (ys.length : Int) := by rw [wrap_u64 (by omega) (by omega)]; omega
  have hs := okw_size (hok y (by simp))
  have hg := gone_nil (hok y (by simp))
  have hya := hy y (by simp)
  obtain ⟨w, hwz⟩ : ∃ w : ByteArray, bl w = ys.flatMap WL := ⟨enc ⟨#[]⟩ ys, by rw [bl_enc]; rfl⟩
  obtain ⟨y0, y1, y2, y3⟩ := y
  have hs : y0.size ≤ 16 ∧ y1.size ≤ 16 ∧ y2.size ≤ 32 := hs
  have eW : WL (⟨y0, y1, y2, y3⟩ : Wr) = vary y0.size ++ (bl y0 ++ (vary y1.size ++ (bl y1 ++ (if y3 = true then [1] else 0 :: (vary y2.size ++ bl y2))))) := rfl
  rw [List.flatMap_cons, eW] at ht
  simp only [List.append_assoc] at ht
  rw [item_Read.l0, if_pos (by omega), show (!false) = true from rfl, item_Read.j1, if_pos rfl]
  cases y3 with
  | true =>
   obtain rfl : y2 = ⟨#[]⟩ := hg rfl
   have r0 : bl (vs y1.size ++ y1 ++ ((⟨#[1]⟩ : ByteArray) ++ w)) = vary y1.size ++ (bl y1 ++ (1 :: bl w)) := by simp only [bl_append, bl_vs, List.append_assoc]; rfl
   have ht' : bl t = vary y0.size ++ bl y0 ++ bl (vs y1.size ++ y1 ++ ((⟨#[1]⟩ : ByteArray) ++ w)) := by
    rw [ht, r0, hwz, List.append_assoc]
    simp
   have hlen := congrArg List.length ht'
   simp only [List.length_append, bl_length] at hlen
   have e0 := ReaderText_good (most := 16) hz ht' (by omega) (k := K) (by omega)
   have r1 : bl ((⟨#[1]⟩ : ByteArray) ++ w) = 1 :: bl w := by rw [bl_append]; rfl
   have e1 := ReaderText_good (s := vs y1.size ++ y1 ++ ((⟨#[1]⟩ : ByteArray) ++ w)) (t := y1) (rest := (⟨#[1]⟩ : ByteArray) ++ w) (most := 16) (by omega) (by rw [r0, r1, List.append_assoc]) (by omega) (k := K) (by omega)
   have hlen2 := congrArg List.length r0
   simp only [List.length_append, bl_length, List.length_cons] at hlen2
   have hlen3 := congrArg List.length r1
   simp only [bl_length, List.length_cons] at hlen3
   have e2 := num_good (s := (⟨#[1]⟩ : ByteArray) ++ w) (u := w) (n := 1) (by omega) r1
   rw [e0, Option.bind_some]
   show (pack_Reader_Text.f K (vs y1.size ++ y1 ++ ((⟨#[1]⟩ : ByteArray) ++ w)) false 16).bind _ = _
   rw [e1, Option.bind_some]
   show (pack_Reader_Number.f ((⟨#[1]⟩ : ByteArray) ++ w) false 1).bind _ = _
   rw [e2, Option.bind_some, if_neg (by simp), if_pos (show ((1 : Nat) : Int) = 1 from rfl), if_pos (by omega), hw']
   have := ih K (acc ++ [(⟨y0, y1, ⟨#[]⟩, true⟩ : Wr)]) w (by omega) (by simp; omega) (by
    intro x hx1
    rcases List.mem_append.1 hx1 with hx1 | hx1
    ·exact hx x hx1
    ·rw [List.mem_singleton.1 hx1]; exact hya) (fun z hz => hy z (by simp [hz])) (fun z hz => hok z (by simp [hz])) (by omega) hwz (by rw [List.append_assoc]; exact hw)
   rw [List.append_assoc] at this
   exact this
  | false =>
   obtain ⟨w2, hw2⟩ : ∃ w2 : ByteArray, w2 = vs y2.size ++ y2 ++ w := ⟨_, rfl⟩
   have hb2 : bl w2 = vary y2.size ++ bl y2 ++ bl w := by rw [hw2]; simp only [bl_append, bl_vs]
   have r0 : bl (vs y1.size ++ y1 ++ ((⟨#[0]⟩ : ByteArray) ++ w2)) = vary y1.size ++ (bl y1 ++ (0 :: bl w2)) := by simp only [bl_append, bl_vs, List.append_assoc]; rfl
   have ht' : bl t = vary y0.size ++ bl y0 ++ bl (vs y1.size ++ y1 ++ ((⟨#[0]⟩ : ByteArray) ++ w2)) := by
    rw [ht, r0, hb2, hwz, List.append_assoc]
    simp
   have hlen := congrArg List.length ht'
   simp only [List.length_append, bl_length] at hlen
   have e0 := ReaderText_good (most := 16) hz ht' (by omega) (k := K) (by omega)
   have r1 : bl ((⟨#[0]⟩ : ByteArray) ++ w2) = 0 :: bl w2 := by rw [bl_append]; rfl
   have e1 := ReaderText_good (s := vs y1.size ++ y1 ++ ((⟨#[0]⟩ : ByteArray) ++ w2)) (t := y1) (rest := (⟨#[0]⟩ : ByteArray) ++ w2) (most := 16) (by omega) (by rw [r0, r1, List.append_assoc]) (by omega) (k := K) (by omega)
   have hlen2 := congrArg List.length r0
   simp only [List.length_append, bl_length, List.length_cons] at hlen2
   have hlen3 := congrArg List.length r1
   simp only [bl_length, List.length_cons] at hlen3
   have hlen4 := congrArg List.length hb2
   simp only [List.length_append, bl_length] at hlen4
   have e2 := num_good (s := (⟨#[0]⟩ : ByteArray) ++ w2) (u := w2) (n := 0) (by omega) r1
   have e3 := ReaderText_good (s := w2) (t := y2) (rest := w) (most := 32) (by omega) hb2 (by omega) (k := K) (by omega)
   rw [e0, Option.bind_some]
   show (pack_Reader_Text.f K (vs y1.size ++ y1 ++ ((⟨#[0]⟩ : ByteArray) ++ w2)) false 16).bind _ = _
   rw [e1, Option.bind_some]
   show (pack_Reader_Number.f ((⟨#[0]⟩ : ByteArray) ++ w2) false 1).bind _ = _
   rw [e2, Option.bind_some, if_neg (by simp), if_neg (by simp)]
   show (pack_Reader_Text.f K w2 false 32).bind _ = _
   rw [e3, Option.bind_some, if_pos (by omega), hw']
   have := ih K (acc ++ [(⟨y0, y1, y2, false⟩ : Wr)]) w (by omega) (by simp; omega) (by
    intro x hx1
    rcases List.mem_append.1 hx1 with hx1 | hx1
    ·exact hx x hx1
    ·rw [List.mem_singleton.1 hx1]; exact hya) (fun z hz => hy z (by simp [hz])) (fun z hz => hok z (by simp [hz])) (by omega) hwz (by rw [List.append_assoc]; exact hw)
   rw [List.append_assoc] at this
   exact this
theorem iread_any {s : ByteArray} (hz : s.size ≤ 9223372036854775807) {k : Nat} (hk : 600 ≤ k) :
  ∃ r : Got, item_Read.f k s = some r ∧ (r.2.2.2.2.2.2 = false → r = (0, 0, 0, 0, 0, [], false)) ∧ (r.2.2.2.2.2.2 = true → ∃ (a b c g e : Nat) (xs : List Wr), wh a b c g e xs = true ∧ bl s = TL a b c g e xs ∧ r = ((a : Int), (b : Int), (c : Int), (g : Int), (e : Int), xs, true)) := by
 obtain ⟨v0, v1, v2, v3, v4, t, c, e1, z1, h1, _⟩ := sget_step (s := s) (b := false) hz (k := k) (by omega)
 obtain ⟨n, u, d, e2, z2, n2, h2⟩ := num_step (s := t) (b := c) (by omega)
 obtain ⟨r, e3, k3, h3⟩ := iread_loop v0 v1 v2 v3 v4 n k [] u d (by omega) (by simp; omega) (by simp) (by omega)
 unfold item_Read.f
 rw [e1, Option.bind_some]
 show ∃ r : Got, (pack_Reader_Number.f t c 1).bind _ = some r ∧ _
 rw [e2, Option.bind_some]
 refine ⟨r, e3, k3, fun h => ?_⟩
 obtain ⟨q1, ys, q2, q3, q4, q5⟩ := h3 h
 subst q1
 rcases h2 with ⟨h2, _⟩ | ⟨_, h2, h4⟩
 ·exact absurd h2 (by simp)
 rw [List.nil_append] at q4 q5
 obtain ⟨_, n0, n1, n3, n4, dc, _, h5, g0, g1, g2, g3, g4⟩ := h1 h2
 subst g0 g1 g2 g3 g4
 refine ⟨n0, n1, n3, n4, dc, ys, q5, ?_, q4⟩
 rw [h5, h4, q3, ← q2]
 rfl
theorem iread_txn {a b c g e : Nat} {xs : List Wr} {s : ByteArray} (h : wh a b c g e xs = true) (hx : ∀ x ∈ xs, fits x) (hs : bl s = TL a b c g e xs) (hz : s.size ≤ 9223372036854775807) {k : Nat} (hk : 600 ≤ k) :
  item_Read.f k s = some ((a : Int), (b : Int), (c : Int), (g : Int), (e : Int), xs, true) := by
 obtain ⟨hS, h0, h8, _, hok⟩ := wh_true h
 have hd := okS_dc hS
 obtain ⟨u, hu⟩ : ∃ u : ByteArray, bl u = xs.flatMap WL := ⟨enc ⟨#[]⟩ xs, by rw [bl_enc]; rfl⟩
 have hnu : bl (nb xs.length 1 ++ u) = xs.length :: bl u := by rw [bl_append, bl_nb, be_small (by omega)]; rfl
 have hs' : bl s = be 1 e ++ rv a b c g ++ bl (nb xs.length 1 ++ u) := by
  rw [hs, hnu, hu, be_small (by omega)]
  unfold TL
  simp
 have hlen := congrArg List.length hs'
 simp only [List.length_append, bl_length] at hlen
 have hlen2 := congrArg List.length hnu
 simp only [bl_length, List.length_cons] at hlen2
 have e1 := sget_good (s := s) (rest := nb xs.length 1 ++ u) hz hs' hS (k := k) (by omega)
 have e2 := num_good (s := nb xs.length 1 ++ u) (u := u) (n := xs.length) (by omega) hnu
 have e3 := iread_good a b c g e xs k [] u (by omega) (by simp; omega) (by simp) hx hok (by omega) hu (by rw [List.nil_append]; exact h)
 unfold item_Read.f
 rw [e1, Option.bind_some]
 show (pack_Reader_Number.f (nb xs.length 1 ++ u) false 1).bind _ = _
 rw [e2, Option.bind_some]
 exact e3
end Go.Proofs.Ytoagfdpgnfinhaa.Pure

set_option linter.unusedVariables false
set_option linter.unusedSimpArgs false
namespace Go.Proofs.Ytoagfdpgnfinhaa.Pure
open Go.RowKit Go.Proofs.Ytoagfdpgnfinhaa.Q Go.Proofs.YtoagfdpgnfinhaaW.PrintWords Go.Proofs.YtoagfdpgnfinhaaW.PrintLast Go.Proofs.YtoagfdpgnfinhaaW.PrintMore Go.Proofs.Ytoagfdpgnfinhaa.Plain Go.Proofs.Ytoagfdpgnfinhaa.CrcN
theorem okw_fits {x : Wr} (h : okw x = true) : fits x := by
 have h : okW x.f0 x.f1 x.f2 x.f3 := of_decide_eq_true h
 have h1 := h.1
 have h2 := h.2.1
 have h3 := h.2.2.1
 exact ⟨by omega, by omega, by omega⟩
theorem get_any {s : ByteArray} (hz : s.size ≤ 9223372036854775807) {K : Nat} (hK : 1300 ≤ K) :
  stream_Get.f K s = some (0, 0, 0, 0, 0, 0, 0, 0, [], 2) ∨ ∃ (kind frm n a b c d e : Nat) (xs : List Wr), okM kind frm n a b c d e xs = true ∧ s = sealq (mq kind frm n a b c d e xs) := by
 obtain ⟨n1, u1, c1, e1, z1, l1, _⟩ := num_step (s := s) (b := false) hz
 obtain ⟨n2, u2, c2, e2, z2, l2, _⟩ := num_step (s := u1) (b := c1) (by omega)
 obtain ⟨r, e3, h4, h3⟩ := ReaderVary_f u2 c2 (by omega) (k := K) (by omega)
 obtain ⟨n3, en, z3⟩ : ∃ n3 : Nat, r.1 = (n3 : Int) ∧ r.2.1.size ≤ u2.size := by
  have z0 : (⟨#[]⟩ : ByteArray).size = 0 := rfl
  cases c2 with
  | true => rw [h3 rfl]; exact ⟨0, rfl, by show (⟨#[]⟩ : ByteArray).size ≤ _; omega⟩
  | false => cases h4 rfl with
   | good n rest _ hs =>
    refine ⟨n, rfl, ?_⟩
    have := congrArg List.length hs
    rw [List.length_append, bl_length, bl_length] at this
    show rest.size ≤ _
    omega
   | bad _ => exact ⟨0, rfl, by show (⟨#[]⟩ : ByteArray).size ≤ _; omega⟩
 clear h3 h4
 obtain ⟨n', u3, c3⟩ := r
 obtain rfl : n' = (n3 : Int) := en
 have z3 : u3.size ≤ u2.size := z3
 have w1 : wrap64 (n1 : Int) = (n1 : Int) := wrap64_id (by omega) (by omega)
 have w2 : wrap64 (n2 : Int) = (n2 : Int) := wrap64_id (by omega) (by omega)
 have fin : ∀ (a b c g e : Nat) (xs : List Wr), (∀ x ∈ xs, fits x) → xs.length ≤ 1000 →
   stream_Get.f K s = ((stream_Put.f K (n1 : Int) (n2 : Int) (n3 : Int) (a : Int) (b : Int) (c : Int) (g : Int) (e : Int) xs).bind fun p => (if p.2 = true then (if p.1.toList = s.toList then some ((n1 : Int), (n2 : Int), (n3 : Int), (a : Int), (b : Int), (c : Int), (g : Int), (e : Int), xs, 0) else some (0, 0, 0, 0, 0, 0, 0, 0, [], 2)) else some (0, 0, 0, 0, 0, 0, 0, 0, [], 2))) →
   stream_Get.f K s = some (0, 0, 0, 0, 0, 0, 0, 0, [], 2) ∨ ∃ (kind frm n a b c d e : Nat) (xs : List Wr), okM kind frm n a b c d e xs = true ∧ s = sealq (mq kind frm n a b c d e xs) := by
  intro a b c g e xs hf hl hE
  cases hk : okM n1 n2 n3 a b c g e xs with
  | false =>
   rw [mput_no hf hl hk (by omega), Option.bind_some, if_neg (by simp)] at hE
   exact Or.inl hE
  | true =>
   rw [(mput_ok hf hl hk hK).1, Option.bind_some, if_pos rfl] at hE
   by_cases ht : (sealq (mq n1 n2 n3 a b c g e xs)).toList = s.toList
   ·exact Or.inr ⟨_, _, _, _, _, _, _, _, _, hk, (toList_iff.1 ht).symm⟩
   ·rw [if_neg ht] at hE
    exact Or.inl hE
 by_cases k1 : (n1 : Int) = 1
 ·obtain ⟨t, u4, c4, e4, z4, t4, _⟩ := text_step (s := u3) (b := c3) (by omega) 2048 (by omega) (k := K) (by omega)
  obtain ⟨r, e5, h5, h6⟩ := iread_any (s := t) (by omega) (k := K) (by omega)
  obtain ⟨a, b, c, g, e, xs, o, er, hf, hl⟩ : ∃ (a b c g e : Nat) (xs : List Wr) (o : Bool), r = ((a : Int), (b : Int), (c : Int), (g : Int), (e : Int), xs, o) ∧ (∀ x ∈ xs, fits x) ∧ xs.length ≤ 1000 := by
   cases ho : r.2.2.2.2.2.2 with
   | false => exact ⟨0, 0, 0, 0, 0, [], false, h5 ho, by simp, by simp⟩
   | true =>
    obtain ⟨a, b, c, g, e, xs, hw, _, er⟩ := h6 ho
    obtain ⟨_, h0, h8, _, hok⟩ := wh_true hw
    exact ⟨a, b, c, g, e, xs, true, er, fun x hx => okw_fits (hok x hx), by omega⟩
  subst er
  refine fin a b c g e xs hf hl ?_
  unfold stream_Get.f
  rw [e1, Option.bind_some]; dsimp only
  rw [e2, Option.bind_some]; dsimp only
  rw [e3, Option.bind_some]; dsimp only
  rw [w1, if_pos k1, e4, Option.bind_some]; dsimp only
  rw [e5, Option.bind_some]; dsimp only
  rw [w2]
 ·refine fin 0 0 0 0 0 [] (by simp) (by simp) ?_
  unfold stream_Get.f
  rw [e1, Option.bind_some]; dsimp only
  rw [e2, Option.bind_some]; dsimp only
  rw [e3, Option.bind_some]; dsimp only
  rw [w1, if_neg k1, w2]
  rfl
theorem txn_100 {a b c g e : Nat} {xs : List Wr} (h : wh a b c g e xs = true) : (enc (sp e a b c g ++ nb xs.length 1) xs).size ≤ 2048 := by
 obtain ⟨hS, h0, h8, _, hok⟩ := wh_true h
 have hb := hS.1
 have hv := WLs_size xs hok
 have := (vv_size (a := a) (b := b) (c := c) (d := g) (by omega) (by omega) (by omega) (by omega)).1
 rw [← bl_length, bl_vv] at this
 rw [← bl_length, bl_txn h]
 unfold TL
 simp only [List.length_cons, List.length_append]
 omega
theorem mq_bl {kind frm n a b c d e : Nat} {xs : List Wr} (h1 : kind < 256) (h2 : frm < 256) : bl (mq kind frm n a b c d e xs) = kind :: frm :: (vary n ++ (if kind = 1 then vary (enc (sp e a b c d ++ nb xs.length 1) xs).size ++ bl (enc (sp e a b c d ++ nb xs.length 1) xs) else [])) := by
 unfold mq
 by_cases k1 : kind = 1
 ·rw [if_pos k1, if_pos k1]
  simp only [bl_append, bl_nb, bl_vs, be_small h1, be_small h2, List.append_assoc, List.cons_append, List.nil_append]
 ·rw [if_neg k1, if_neg k1]
  simp only [bl_append, bl_nb, bl_vs, be_small h1, be_small h2, List.append_assoc, List.cons_append, List.nil_append, List.append_nil]
theorem seal_bl (q : ByteArray) : bl (sealq q) = bl q ++ be 4 (sum (bl q)) := by
 unfold sealq
 rw [bl_append, bl_nb]
theorem get_good {kind frm n a b c d e : Nat} {xs : List Wr} (hx : ∀ x ∈ xs, fits x) (hl : xs.length ≤ 1000) (h : okM kind frm n a b c d e xs = true) {K : Nat} (hK : 1300 ≤ K) :
  stream_Get.f K (sealq (mq kind frm n a b c d e xs)) = some ((kind : Int), (frm : Int), (n : Int), (a : Int), (b : Int), (c : Int), (d : Int), (e : Int), xs, 0) := by
 obtain ⟨p1, p2, p3⟩ := mput_ok hx hl h hK
 obtain ⟨hf, hk2⟩ := okM_kind h
 have hn : n < 18446744073709551616 := by
  rcases hk2 with ⟨_, hw, e1⟩ | ⟨_, h2, _⟩
  ·have := own_u64 hw e1; omega
  ·omega
 have hkd : kind < 256 := by rcases hk2 with ⟨rfl, _⟩ | ⟨rfl, _⟩ <;> omega
 have hb := seal_bl (mq kind frm n a b c d e xs)
 have hq := mq_bl (kind := kind) (frm := frm) (n := n) (a := a) (b := b) (c := c) (d := d) (e := e) (xs := xs) hkd (by omega)
 have hsz : (sealq (mq kind frm n a b c d e xs)).size ≤ 200000 := by
  unfold sealq
  rw [ByteArray.size_append, nb_size]
  omega
 have w1 : wrap64 (kind : Int) = (kind : Int) := wrap64_id (by omega) (by omega)
 have w2 : wrap64 (frm : Int) = (frm : Int) := wrap64_id (by omega) (by omega)
 generalize hS : sealq (mq kind frm n a b c d e xs) = s at p1 hb hsz ⊢
 generalize mq kind frm n a b c d e xs = q at p2 p3 hb hq
 clear hS
 rcases hk2 with ⟨rfl, hw, _⟩ | ⟨rfl, _, rfl, rfl, rfl, rfl, rfl, rfl⟩
 ·rw [if_pos rfl] at hq
  have h48 := txn_100 hw
  have ht := bl_txn hw
  generalize enc (sp e a b c d ++ nb xs.length 1) xs = u at hq h48 ht
  have er := iread_txn hw hx ht (by omega) (k := K) (by omega)
  have b3 : bl ((vs u.size ++ u) ++ nb (sum (bl q)) 4) = vary u.size ++ bl u ++ bl (nb (sum (bl q)) 4) := by simp only [bl_append, bl_vs]
  have b2 : bl (vs n ++ ((vs u.size ++ u) ++ nb (sum (bl q)) 4)) = vary n ++ bl ((vs u.size ++ u) ++ nb (sum (bl q)) 4) := by rw [bl_append, bl_vs]
  have b1 : bl (nb frm 1 ++ (vs n ++ ((vs u.size ++ u) ++ nb (sum (bl q)) 4))) = frm :: bl (vs n ++ ((vs u.size ++ u) ++ nb (sum (bl q)) 4)) := by rw [bl_append, bl_nb, be_small (by omega)]; rfl
  have b0 : bl s = 1 :: bl (nb frm 1 ++ (vs n ++ ((vs u.size ++ u) ++ nb (sum (bl q)) 4))) := by
   rw [hb, b1, b2, b3, bl_nb]
   generalize be 4 (sum (bl q)) = sm
   rw [hq]
   simp only [List.append_assoc, List.cons_append]
  have z1 := congrArg List.length b1
  have z2 := congrArg List.length b2
  have z0 := congrArg List.length b0
  rw [List.length_cons, bl_length, bl_length] at z1
  rw [List.length_append, bl_length, bl_length] at z2
  rw [List.length_cons, bl_length, bl_length] at z0
  generalize (vs u.size ++ u) ++ nb (sum (bl q)) 4 = u3 at *
  generalize vs n ++ u3 = u2 at *
  generalize nb frm 1 ++ u2 = u1 at *
  have e1 := num_good (by omega) b0
  have e2 := num_good (by omega) b1
  have e3 := ReaderVary_good (by omega) hn b2 (k := K) (by omega)
  have e4 := ReaderText_good (most := 2048) (by omega) b3 (by omega) (k := K) (by omega)
  unfold stream_Get.f
  rw [e1, Option.bind_some]; dsimp only
  rw [e2, Option.bind_some]; dsimp only
  rw [e3, Option.bind_some]; dsimp only
  rw [w1, if_pos (show ((1 : Nat) : Int) = 1 from rfl), e4, Option.bind_some]; dsimp only
  rw [er, Option.bind_some]; dsimp only
  rw [w2, p1, Option.bind_some, if_pos rfl, if_pos rfl]
 ·rw [if_neg (by decide)] at hq
  have b2 : bl (vs n ++ nb (sum (bl q)) 4) = vary n ++ bl (nb (sum (bl q)) 4) := by rw [bl_append, bl_vs]
  have b1 : bl (nb frm 1 ++ (vs n ++ nb (sum (bl q)) 4)) = frm :: bl (vs n ++ nb (sum (bl q)) 4) := by rw [bl_append, bl_nb, be_small (by omega)]; rfl
  have b0 : bl s = 2 :: bl (nb frm 1 ++ (vs n ++ nb (sum (bl q)) 4)) := by
   rw [hb, b1, b2, bl_nb]
   generalize be 4 (sum (bl q)) = sm
   rw [hq]
   simp only [List.append_assoc, List.cons_append, List.append_nil]
  have z1 := congrArg List.length b1
  have z2 := congrArg List.length b2
  have z0 := congrArg List.length b0
  rw [List.length_cons, bl_length, bl_length] at z1
  rw [List.length_append, bl_length, bl_length] at z2
  rw [List.length_cons, bl_length, bl_length] at z0
  generalize nb (sum (bl q)) 4 = u3 at *
  generalize vs n ++ u3 = u2 at *
  generalize nb frm 1 ++ u2 = u1 at *
  have e1 := num_good (by omega) b0
  have e2 := num_good (by omega) b1
  have e3 := ReaderVary_good (by omega) hn b2 (k := K) (by omega)
  unfold stream_Get.f
  rw [e1, Option.bind_some]; dsimp only
  rw [e2, Option.bind_some]; dsimp only
  rw [e3, Option.bind_some]; dsimp only
  rw [w1, if_neg (show ¬ ((2 : Nat) : Int) = 1 by decide), w2]
  refine (congrArg (fun o => Option.bind o _) p1).trans ?_
  rw [Option.bind_some, if_pos rfl, if_pos rfl]
  rfl
theorem mq_prefix {kind frm n a b c d e kind' frm' n' a' b' c' d' e' : Nat} {xs ys : List Wr} (h : okM kind frm n a b c d e xs = true) (h' : okM kind' frm' n' a' b' c' d' e' ys = true) {r q : List Nat} (hh : bl (mq kind frm n a b c d e xs) ++ r = bl (mq kind' frm' n' a' b' c' d' e' ys) ++ q) : r = q := by
 obtain ⟨f, k2⟩ := okM_kind h
 obtain ⟨f', k2'⟩ := okM_kind h'
 rw [mq_bl (by rcases k2 with ⟨rfl, _⟩ | ⟨rfl, _⟩ <;> omega) (by omega), mq_bl (by rcases k2' with ⟨rfl, _⟩ | ⟨rfl, _⟩ <;> omega) (by omega)] at hh
 simp only [List.cons_append, List.append_assoc, List.cons.injEq] at hh
 obtain ⟨e0, e1, hh⟩ := hh
 obtain ⟨e2, hh⟩ := vary_prefix _ _ _ _ hh
 subst e0
 by_cases c1 : kind = 1
 ·rw [if_pos c1, if_pos c1] at hh
  simp only [List.append_assoc] at hh
  exact (text_prefix hh).2
 ·rw [if_neg c1, if_neg c1] at hh
  exact hh
theorem sum_one {l : List Nat} (hl : Byt l) {p v : Nat} (hp : p < l.length) (hv : v < 256) (hne : v ≠ l[p]) : sum (l.set p v) ≠ sum l := by
 have e1 : l = l.take p ++ (l[p] :: l.drop (p + 1)) := by rw [← List.drop_eq_getElem_cons hp, List.take_append_drop]
 have e2 : l.set p v = l.take p ++ (v :: l.drop (p + 1)) := List.set_eq_take_append_cons_drop.trans (if_pos hp)
 have hx : l[p] < 256 := hl _ (List.getElem_mem hp)
 intro h
 rw [e2] at h
 conv at h => rhs; rw [e1]
 unfold sum at h
 have h : fold F (l.take p ++ (v :: l.drop (p + 1))) = fold F (l.take p ++ (l[p] :: l.drop (p + 1))) := by
  have := congrArg (· ^^^ F) h
  simp only [xor_FF] at this
  exact this
 rw [fold_append, fold_append] at h
 generalize fold F (l.take p) = c at h
 generalize l[p] = x at *
 generalize l.drop (p + 1) = C at h
 have hs : ∀ y, fold c (y :: C) = fold (next c y) C := fun y => rfl
 rw [hs, hs] at h
 have e3 : next c v = next c x ^^^ next 0 (x ^^^ v) := by
  have := next_both c 0 x (x ^^^ v)
  rw [Nat.xor_zero, ← Nat.xor_assoc, Nat.xor_self, Nat.zero_xor] at this
  exact this
 rw [e3, fold_xor] at h
 have hz : hn (8 * C.length) (next 0 (x ^^^ v)) = 0 := by
  generalize hn (8 * C.length) (next 0 (x ^^^ v)) = t at h
  generalize fold (next c x) C = u at h
  have := congrArg (u ^^^ ·) h
  simp only [← Nat.xor_assoc, Nat.xor_self, Nat.zero_xor] at this
  exact this
 have hxv : x ^^^ v < 2 ^ 8 := Nat.xor_lt_two_pow (n := 8) (by omega) (by omega)
 have h1 := hn_inj _ (next_lt (c := 0) (by decide) (by omega)) hz
 unfold next at h1
 rw [Nat.zero_xor] at h1
 have h2 := hn_inj 8 (show x ^^^ v < 2 ^ 32 by omega) h1
 apply hne
 have := congrArg (x ^^^ ·) h2
 simp only [← Nat.xor_assoc, Nat.xor_self, Nat.zero_xor, Nat.xor_zero] at this
 exact this
theorem bytes_NL (s : ByteArray) : bytesOf s = NL (bl s) := by
 unfold bytesOf NL bl
 rw [List.map_map]
 rfl
theorem turn_bl (s : ByteArray) (p m : Nat) (hp : p < (bl s).length) (hm : m < 256) : bl (strOfNums (tenementlaw15_StreamBack.turn (bytesOf s) p (m : Int))) = (bl s).set p ((bl s)[p] ^^^ m) := by
 have hx : (bl s)[p] < 256 := bl_lt s _ (List.getElem_mem hp)
 have hv : (bl s)[p] ^^^ m < 2 ^ 8 := Nat.xor_lt_two_pow (n := 8) (by omega) (by omega)
 have e : tenementlaw15_StreamBack.turn (bytesOf s) p (m : Int) = NL ((bl s).set p ((bl s)[p] ^^^ m)) := by
  unfold tenementlaw15_StreamBack.turn
  rw [bytes_NL]
  have e1 : (NL (bl s))[p]? = some (((bl s)[p] : Nat) : Int) := by
   unfold NL
   rw [List.getElem?_map, List.getElem?_eq_getElem hp]
   rfl
  rw [e1, Option.getD_some, u8_xor_nat _ _ hx hm]
  unfold NL
  rw [List.map_set]
 rw [e, bl_str]
 intro b hb
 rcases List.mem_or_eq_of_mem_set hb with h | h
 ·exact bl_lt s b h
 ·omega
theorem mask (a : Int) (h0 : 0 ≤ a) : ∃ m : Nat, (2 ^ (a % 8).toNat % 256 : Int) = (m : Int) ∧ 0 < m ∧ m < 256 := by
 obtain ⟨j, hj⟩ : ∃ j, j = (a % 8).toNat := ⟨_, rfl⟩
 have h8 : j < 8 := by omega
 rw [← hj]
 clear hj
 have hc : j = 0 ∨ j = 1 ∨ j = 2 ∨ j = 3 ∨ j = 4 ∨ j = 5 ∨ j = 6 ∨ j = 7 := by omega
 rcases hc with rfl | rfl | rfl | rfl | rfl | rfl | rfl | rfl
 ·exact ⟨1, by decide, by omega, by omega⟩
 ·exact ⟨2, by decide, by omega, by omega⟩
 ·exact ⟨4, by decide, by omega, by omega⟩
 ·exact ⟨8, by decide, by omega, by omega⟩
 ·exact ⟨16, by decide, by omega, by omega⟩
 ·exact ⟨32, by decide, by omega, by omega⟩
 ·exact ⟨64, by decide, by omega, by omega⟩
 ·exact ⟨128, by decide, by omega, by omega⟩
theorem eqb_refl : ∀ xs : List Wr, eqb xs xs = true
 | [] => rfl
 | x :: xs => by
  unfold eqb
  rw [eqb_refl xs]
  unfold weq
  simp
theorem sameT_refl (a b c d e : Int) (xs : List Wr) : sameT a b c d e xs a b c d e xs = true := by
 unfold sameT
 rw [eqb_refl]
 simp
theorem StreamBack : tenementlaw15_StreamBack.Pure := by
 intro z cut bit hz hcut hbit
 obtain ⟨kd, fr, n0, ⟨⟨⟨⟨v0, v1, v2, v3⟩, d⟩, o⟩, l, q⟩, ow⟩ := z
 have hD := hz.2.2.2.1
 have hw := hD.1.1
 have hl : ∀ p ∈ l, fits p.f0 := fun p hp => ⟨(hD.2.1.1 p hp).1.1, (hD.2.1.1 p hp).1.2.1, (hD.2.1.1 p hp).1.2.2.1⟩
 have hlen : l.length * 64 ≤ 140737488351232 := hD.2.1.2
 have hcut := u16_of hcut
 have hbit := u8_of hbit
 obtain ⟨kind, frm, n, a, b, c, g, e, xs, eL, hM⟩ := letter_own kd fr n0 v0 v1 v2 v3 d hz.2.2.1 hw.1.1 hw.1.2.1 hw.1.2.2.1 o q l hl (by omega) (K := (l.length + 1) * 15 + 1500) (by omega)
 have hK : 1300 ≤ (l.length + 1) * 15 + 1500 := by omega
 generalize (l.length + 1) * 15 + 1500 = K at eL hK
 clear hz hD hw hl hlen
 have hok := mine_ok hM
 obtain ⟨f1, f4, hn, hf, h8, hcase⟩ := hM
 obtain ⟨p1, p2, p3⟩ := mput_ok hf (by omega) hok hK
 have g1 := get_good hf (by omega) hok hK
 have hsb := seal_bl (mq kind frm n a b c g e xs)
 have hsz : (sealq (mq kind frm n a b c g e xs)).size = (mq kind frm n a b c g e xs).size + 4 := by
  unfold sealq
  rw [ByteArray.size_append, nb_size]
 have q1 := mright_f kind frm n a b c g e xs hf (by omega) (k := K) (by omega)
 rw [hok] at q1
 have q2 := same_f a b c g e xs a b c g e xs (by omega) (k := K) (by omega)
 rw [sameT_refl] at q2
 obtain ⟨s, hs⟩ : ∃ s, s = sealq (mq kind frm n a b c g e xs) := ⟨_, rfl⟩
 rw [← hs] at p1 g1 hsb hsz
 have hsz2 : s.size ≤ 1000000 := by omega
 have hpos := Int.emod_nonneg cut (show (s.size : Int) ≠ 0 by omega)
 have hlt := Int.emod_lt_of_pos cut (show 0 < (s.size : Int) by omega)
 obtain ⟨p, hp⟩ : ∃ p : Nat, cut % (s.size : Int) = (p : Int) := ⟨(cut % (s.size : Int)).toNat, by omega⟩
 have hps : p < s.size := by omega
 have hpl : p < (bl s).length := by rw [bl_length]; exact hps
 obtain ⟨m, em, m0, m256⟩ := mask bit hbit.1
 -- any other text that is a message's is none of these
 have none_ : ∀ u : ByteArray, u.size ≤ 9223372036854775807 → (∀ (kind' frm' n' a' b' c' d' e' : Nat) (ys : List Wr), okM kind' frm' n' a' b' c' d' e' ys = true → u ≠ sealq (mq kind' frm' n' a' b' c' d' e' ys)) → stream_Get.f K u = some (0, 0, 0, 0, 0, 0, 0, 0, [], 2) := by
  intro u hu h
  rcases get_any hu hK with h1 | ⟨k', f', n', a', b', c', d', e', ys, hk', h2⟩
  ·exact h1
  ·exact absurd h2 (h _ _ _ _ _ _ _ _ _ hk')
 have t1 : stream_Get.f K (strOfNums (tenementlaw15_StreamBack.turn (bytesOf s) p (2 ^ (bit % 8).toNat % 256))) = some (0, 0, 0, 0, 0, 0, 0, 0, [], 2) := by
  rw [em]
  have hb := turn_bl s p m hpl m256
  have hx : (bl s)[p] < 256 := bl_lt s _ (List.getElem_mem hpl)
  have hv : (bl s)[p] ^^^ m < 2 ^ 8 := Nat.xor_lt_two_pow (n := 8) (by omega) (by omega)
  have hne : (bl s)[p] ^^^ m ≠ (bl s)[p] := by
   intro h
   have := congrArg ((bl s)[p] ^^^ ·) h
   simp only [← Nat.xor_assoc, Nat.xor_self, Nat.zero_xor] at this
   omega
  generalize strOfNums (tenementlaw15_StreamBack.turn (bytesOf s) p (m : Int)) = u at hb
  generalize hvv : (bl s)[p] ^^^ m = v at hb hv hne
  clear hvv
  have hul : u.size = s.size := by rw [← bl_length, hb, List.length_set, bl_length]
  refine none_ u (by omega) ?_
  intro k' f' n' a' b' c' d' e' ys hk' hu
  have hub := seal_bl (mq k' f' n' a' b' c' d' e' ys)
  rw [← hu] at hub
  generalize mq k' f' n' a' b' c' d' e' ys = q' at hub
  generalize mq kind frm n a b c g e xs = q0 at hsb hsz p2 p3
  clear hu hk' none_ g1 p1 q1 q2 eL
  have hl4 : (bl q').length = (bl q0).length := by
   have e1 := congrArg List.length hub
   have e2 := congrArg List.length hsb
   rw [List.length_append, be_len, bl_length] at e1 e2
   omega
  have hsum0 := sum_bl_lt q0
  have hsum' := sum_bl_lt q'
  rw [hub] at hb
  by_cases c1 : p < (bl q0).length
  ·have e1 : (bl s).set p v = (bl q0).set p v ++ be 4 (sum (bl q0)) := by rw [hsb, List.set_append_left _ _ c1]
   rw [e1] at hb
   obtain ⟨e2, e3⟩ := List.append_inj hb (by rw [List.length_set, hl4])
   have e4 := be_inj (k := 4) (by omega) (by omega) e3
   rw [e2] at e4
   have e5 : (bl s)[p] = (bl q0)[p] := by
    have : (bl s)[p]? = (bl q0)[p]? := by rw [hsb, List.getElem?_append_left c1]
    rw [List.getElem?_eq_getElem hpl, List.getElem?_eq_getElem c1] at this
    exact Option.some.inj this
   rw [e5] at hne
   exact sum_one (bl_lt q0) c1 (by omega) hne e4
  ·have e1 : (bl s).set p v = bl q0 ++ (be 4 (sum (bl q0))).set (p - (bl q0).length) v := by rw [hsb, List.set_append_right _ _ (by omega)]
   rw [e1] at hb
   obtain ⟨e2, e3⟩ := List.append_inj hb hl4
   rw [e2] at e3
   have e4 : (bl s).set p v = bl s := by rw [e1, ← e3, hsb]
   have e5 : ((bl s).set p v)[p]? = (bl s)[p]? := by rw [e4]
   rw [List.getElem?_set_self hpl, List.getElem?_eq_getElem hpl] at e5
   exact hne (Option.some.inj e5)
 have t2 : stream_Get.f K (s.extract 0 p) = some (0, 0, 0, 0, 0, 0, 0, 0, [], 2) := by
  have hb := bl_take s p
  have hul : (s.extract 0 p).size = p := by rw [← bl_length, hb, List.length_take]; omega
  refine none_ _ (by omega) ?_
  intro k' f' n' a' b' c' d' e' ys hk' hu
  have hub := seal_bl (mq k' f' n' a' b' c' d' e' ys)
  rw [← hu, hb] at hub
  have e1 : bl (mq kind frm n a b c g e xs) ++ be 4 (sum (bl (mq kind frm n a b c g e xs))) = bl (mq k' f' n' a' b' c' d' e' ys) ++ (be 4 (sum (bl (mq k' f' n' a' b' c' d' e' ys))) ++ (bl s).drop p) := by
   rw [← hsb, ← List.append_assoc, ← hub, List.take_append_drop]
  have e2 := congrArg List.length (mq_prefix hok hk' e1)
  rw [List.length_append, be_len, be_len, List.length_drop, bl_length] at e2
  omega
 have t3 : stream_Get.f K (s ++ ⟨#[120]⟩) = some (0, 0, 0, 0, 0, 0, 0, 0, [], 2) := by
  have hb := bl_append s ⟨#[120]⟩
  have z1 : (⟨#[120]⟩ : ByteArray).size = 1 := rfl
  refine none_ _ (by rw [ByteArray.size_append]; omega) ?_
  intro k' f' n' a' b' c' d' e' ys hk' hu
  have hub := seal_bl (mq k' f' n' a' b' c' d' e' ys)
  rw [← hu, hb, hsb, List.append_assoc] at hub
  have e2 := congrArg List.length (mq_prefix hok hk' hub)
  rw [List.length_append, be_len, be_len, bl_length] at e2
  omega
 unfold tenementlaw15_StreamBack.f
 rw [if_pos]
 refine ⟨K, kind, frm, n, a, b, c, g, e, xs, s, p, ?_⟩
 exact ⟨eL, p1, by omega, hsz2, hcut.1, hcut.2, hbit.1, hbit.2, hp, g1, t1, t2, t3, q2, q1⟩
end Go.Proofs.Ytoagfdpgnfinhaa.Pure
