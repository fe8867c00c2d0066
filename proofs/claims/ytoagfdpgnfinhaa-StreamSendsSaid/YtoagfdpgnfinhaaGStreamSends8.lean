import Derived.Test.YtoagfdpgnfinhaaGStreamSends2
import Derived.Test.YtoagfdpgnfinhaaGStreamSends3
import Derived.Test.YtoagfdpgnfinhaaGStreamSends4
import Derived.Test.YtoagfdpgnfinhaaGStreamSends7
import Derived.RegionTactic
import Derived.Test.YtoagfdpgnfinhaaGStreamSends0
import Derived.Test.YtoagfdpgnfinhaaGStreamSends5
namespace Go.Proofs.Ytoagfdpgnfinhaa.Q
open Go.RowKit Go.Proofs.YtoagfdpgnfinhaaW.PrintWords Go.Proofs.YtoagfdpgnfinhaaW.PrintLast Go.Proofs.YtoagfdpgnfinhaaW.PrintMore
attribute [local go_sem] max2_int min2_int max_two min_two max_three min_three max_four min_four   -- for this text's walks alone
set_option linter.unusedVariables false
set_option linter.unusedSimpArgs false
def tenementlaw15_examples.St (w : World) (g : Nat) (n : Int) (v : Value) : Prop := w.heap[g]? = some (.cells #[.int .u64 n, v] 157 (0, 0))
theorem tenementlaw15_examples.St.below {w w1 : World} {g : Nat} {n : Int} {v : Value} (h : tenementlaw15_examples.St w g n v) (hb : Below w.heap.size w w1) : tenementlaw15_examples.St w1 g n v := blk_below h hb
theorem tenementlaw15_examples.St.alloc {w : World} {g : Nat} {n : Int} {v : Value} (h : tenementlaw15_examples.St w g n v) (o : Obj) : tenementlaw15_examples.St (w.alloc o) g n v := blk_alloc h o
theorem tenementlaw15_examples.info : (Try.prog.info? 9).map (fun i => (i.zero, i.size, i.bytes)) = some (some (.string ⟨#[]⟩), 1, 16) := by kernel_rfl
theorem tenementlaw15_examples.w64 {x : Int} (h0 : 0 ≤ x) (h1 : x ≤ 1000000) : IntKind.u64.wrap x = x := by
 rw [IntKind.wrap_u64]
 omega
set_option maxHeartbeats 4000000 in
theorem tenementlaw15_examples.new_c (w : World) : Calls Try.prog 51 #[] w fun e w' => e = .returned (.pointer (some ⟨w.heap.size, 0, none⟩)) ∧ tenementlaw15_examples.St w' w.heap.size 0 (.slice none 0 0) ∧ Below w.heap.size w w' := by
 go_enter Try.func51, Try.ntmps51
 go_wp2
 go_ret
 exact ⟨rfl, blk_new _ _, below_alloc (Below.refl _ _) _⟩
set_option maxHeartbeats 4000000 in
theorem tenementlaw15_examples.acked_c (w : World) {g : Nat} {n : Int} {v : Value} (hS : tenementlaw15_examples.St w g n v) : Calls Try.prog 55 #[.pointer (some ⟨g, 0, none⟩)] w fun e w' => e = .returned (.int .u64 n) ∧ Below w.heap.size w w' := by
 have h0 : w.cell? ⟨g, 0, none⟩ = some (.int .u64 n) := (blk_cell hS 0).trans rfl
 have h1 : w.cell? ⟨g, 1, none⟩ = some v := (blk_cell hS 1).trans rfl
 have HS := Aside0.mk hS
 clear hS
 go_enter Try.func55, Try.ntmps55
 go_wp2
 try (go_region; go_wp2)
 go_ret
 exact ⟨rfl, by first | exact Below.refl _ _ | exact below_drew1 (Below.refl _ _)⟩
set_option maxHeartbeats 4000000 in
theorem tenementlaw15_examples.last_c (w : World) {g : Nat} {n : Int} {A : Option Addr} {m c : Nat} (hS : tenementlaw15_examples.St w g n (.slice A m c)) (n0 : 0 ≤ n) (n1 : n ≤ 1000) (m1 : m ≤ 1000) : Calls Try.prog 56 #[.pointer (some ⟨g, 0, none⟩)] w fun e w' => e = .returned (.int .u64 (n + (m : Int))) ∧ Below w.heap.size w w' := by
 have h0 : w.cell? ⟨g, 0, none⟩ = some (.int .u64 n) := (blk_cell hS 0).trans rfl
 have h1 : w.cell? ⟨g, 1, none⟩ = some (.slice A m c) := (blk_cell hS 1).trans rfl
 have e1 : IntKind.u64.wrap (m : Int) = m := tenementlaw15_examples.w64 (by omega) (by omega)
 have e2 : IntKind.u64.wrap (n + (m : Int)) = n + (m : Int) := tenementlaw15_examples.w64 (by omega) (by omega)
 clear hS
 go_enter Try.func56, Try.ntmps56
 go_wp2
 go_region
 all_goals go_wp2
 go_ret
 exact ⟨rfl, below_drew1 (Below.refl _ _)⟩
set_option maxHeartbeats 4000000 in
theorem tenementlaw15_examples.push_c (w0 w : World) {g : Nat} {n : Int} {v : Value} {xs : List ByteArray} (x : ByteArray) (hS : tenementlaw15_examples.St w g n v) (hR : Kd.R Kd.string 9 w w0.heap.size (fun k => k ≠ g) v xs) (hB : Below w0.heap.size w0 w) (hg : w0.heap.size ≤ g) (n0 : 0 ≤ n) (n1 : n ≤ 900) (m1 : xs.length ≤ 900) :
  Calls Try.prog 52 #[.pointer (some ⟨g, 0, none⟩), .string x] w fun e w' => e = .returned (.int .u64 (n + ((xs.length : Int) + 1))) ∧ (∃ v', tenementlaw15_examples.St w' g n v' ∧ Kd.R Kd.string 9 w' w0.heap.size (fun k => k ≠ g) v' (xs ++ [x])) ∧ Below w0.heap.size w0 w' := by
 obtain ⟨A, c, rfl, hc, _⟩ := Kd.R_reads hR
 have h0 : w.cell? ⟨g, 0, none⟩ = some (.int .u64 n) := (blk_cell hS 0).trans rfl
 have h1 : w.cell? ⟨g, 1, none⟩ = some (.slice A xs.length c) := (blk_cell hS 1).trans rfl
 have HS := Aside0.mk hS
 have HR := Aside0.mk hR
 have HB := Aside0.mk hB
 have HGL := Aside0.mk (blk_lt hS)
 have hn9 : n ≤ 1000 := by omega
 have hm9 : xs.length + 1 ≤ 1000 := by omega
 have hl9 : (xs ++ [x]).length = xs.length + 1 := by rw [List.length_append, List.length_singleton]
 clear hS hR hB
 go_enter Try.func52, Try.ntmps52
 go_wp2_with (first
  | ((with_reducible refine gate_builtin (b := .append) (xs := #[.tmp 9, .tmp 11]) rfl ?_); at_builtin; refine Kd.R_append Kd.string (w0 := w0) w0.heap.size rfl (.tmp 9) (.tmp 11) 113 9 (.string ⟨#[]⟩) 16 rfl Try.underlying113 tenementlaw15_examples.info rfl (by decide) (by omega) (.slice A xs.length c) xs x [.string x] (fun k => k ≠ g) (fun _ => False) rfl rfl ?aP (fun _ hk => hk.elim) ?aF ?aO ?aB ?aS ?aL ?_; (case aP => rfl); (case aF => exact (fun k hk => by have := HGL.out; omega)); (case aO => exact HR.out); (case aB => exact HB.out); (case aS => exact below_size HB.out); (case aL => omega); intro v1 w1 ho hb hg1 hat; have HO := Aside0.mk ho; have HB1 := Aside0.mk hb; have HS1 := Aside0.mk (blk_grown HS.out hg1 (fun e => HR.out.1 g e.symm rfl)); have h11 : w1.cell? ⟨g, 1, none⟩ = some (.slice A xs.length c) := ((blk_cell HS1.out 1).trans rfl); have h1f := blk_frozen HS1.out 1; obtain ⟨A1, c1, e1, _, _⟩ := Kd.R_reads ho; subst e1; have HS2 : Aside0 (tenementlaw15_examples.St (w1.setCell ⟨g, 1, none⟩ (.slice A1 (xs.length + 1) c1)) g n (.slice A1 (xs.length + 1) c1)) := ⟨blk_put HS1.out 1 (.slice A1 (xs.length + 1) c1) rfl⟩; rw [hl9] at HO; clear ho hb hg1 hat)
  | (go_at_call 56; go_loud ((with_reducible refine (tenementlaw15_examples.last_c _ HS2.out n0 hn9 hm9).mono ?_); rintro e w2 ⟨rfl, hb⟩; have HB2 := Aside0.mk hb; clear hb)))
 go_ret
 refine ⟨?_, ⟨_, blk_below HS2.out HB2.out, Kd.R_below (Kd.R_far HO.out (p := ⟨g, 1, none⟩) (fun k hk => hk) _) HB2.out⟩, below_step (HB1.out.setCell hg _) HB2.out⟩
 rfl
set_option maxHeartbeats 4000000 in
theorem tenementlaw15_examples.rest_c (w : World) {g : Nat} {n : Int} {A : Option Addr} {c : Nat} {xs : List ByteArray} (hS : tenementlaw15_examples.St w g n (.slice A xs.length c)) (hC : Kd.C Kd.string w A xs.length xs) (hc : xs.length ≤ c) (m1 : xs.length ≤ 9) :
  Calls Try.prog 53 #[.pointer (some ⟨g, 0, none⟩), .int .i64 9] w fun e w' => ∃ v, e = .returned v ∧ Kd.R Kd.string 9 w' w.heap.size (fun _ => True) v xs ∧ Below w.heap.size w w' := by
 have h0 : w.cell? ⟨g, 0, none⟩ = some (.int .u64 n) := (blk_cell hS 0).trans rfl
 have h1 : w.cell? ⟨g, 1, none⟩ = some (.slice A xs.length c) := (blk_cell hS 1).trans rfl
 have HC := Aside0.mk hC
 obtain ⟨m, hm⟩ : ∃ m, m = xs.length := ⟨_, rfl⟩
 rw [← hm] at h1 hc m1
 have hmin : (if (m : Int) < 9 then (m : Int) else 9) = (m : Int) := by split <;> omega
 have hmax : (if (m : Int) < 0 then 0 else (m : Int)) = (m : Int) := if_neg (by omega)
 have hm0 : (0 : Int) ≤ (m : Int) := by omega
 have hmc : (m : Int) ≤ (c : Int) := by omega
 rw [← hm] at HC
 clear hS hC hm
 go_enter Try.func53, Try.ntmps53
 go_wp2
 refine start_ (n := 15) (S := fun w' => w'.cell? ⟨g, 0, none⟩ = some (.int .u64 n) ∧ w'.cell? ⟨g, 1, none⟩ = some (.slice A m c)) (ds := []) (mB_ 15 0) (by kernel_rfl) rfl rfl ⟨h0, h1⟩ (fun hHeld => ?_)
 refine Kp_ 0 5 (mB_ 15 1) (by kernel_rfl) ?_
 refine Kp_ 1 6 (mB_ 15 3) (by kernel_rfl) ?_
 refine Kp_ 2 7 (mB_ 15 7) (by kernel_rfl) ?_
 refine Ko_ 3 8 (mB_ 15 15) (by kernel_rfl) hHeld ?_
 refine Kp_ 4 9 (mB_ 15 31) (by kernel_rfl) ?_
 refine Kp_ 5 10 (mB_ 15 63) (by kernel_rfl) ?_
 refine Kp_ 6 11 (mB_ 15 127) (by kernel_rfl) ?_
 refine Kp_ 7 12 (mB_ 15 255) (by kernel_rfl) ?_
 refine Ko_ 8 13 (mB_ 15 511) (by kernel_rfl) hHeld ?_
 refine Kp_ 9 14 (mB_ 15 1023) (by kernel_rfl) ?_
 refine Kp_ 10 15 (mB_ 15 2047) (by kernel_rfl) ?_
 refine Kp_ 11 16 (mB_ 15 4095) (by kernel_rfl) ?_
 refine Kp_ 12 17 (mB_ 15 8191) (by kernel_rfl) ?_
 refine one_ (i := 13) (N := some 18) (mB_ 15 16383) rfl rfl (by kernel_rfl) (by decide) (fun K hK => ?_)
 refine Kd.R_append_rows_step Kd.string (w0 := w) w.heap.size (by rfl) (.const (.slice none 0 0)) (.tmp 17) 113 9 (.string ⟨#[]⟩) 16 rfl Try.underlying113 tenementlaw15_examples.info rfl (by decide) (by omega) (.slice none 0 0) ([] : List ByteArray) xs _ _ _ (fun _ => True) (fun _ => False) rfl rfl ?aO ?aR (fun _ _ h => h) (fun _ h => h.elim) ?aF ?aB ?aS ?aL ?_
 (case aO => exact Kd.R_nil _ _ _ _ _)
 (case aR => exact HC.out)
 (case aF => exact (fun _ _ => trivial))
 (case aB => exact below_drew1 (Below.refl _ _))
 (case aS => exact Nat.le_refl _)
 (case aL => rw [List.length_nil]; omega)
 intro v1 w6 ho hb hg6 hat
 have HO := Aside0.mk ho
 have HB6 := Aside0.mk hb
 clear ho hg6 hat
 refine hK.out _ _ ⟨(hb.cell (World.block_lt_of_cell? _ _ h0)).trans h0, (hb.cell (World.block_lt_of_cell? _ _ h1)).trans h1⟩ (fun hHeld => ?_)
 clear hb hK K
 refine Kn_ 18 ?_
 refine Kp_ 14 4 (mB_ 15 32767) (by kernel_rfl) ?_
 refine done_ (by kernel_rfl) ?_
 try go_wp2
 go_ret
 exact ⟨_, rfl, HO.out, HB6.out⟩
set_option maxHeartbeats 4000000 in
theorem tenementlaw15_examples.ack_no (w : World) {g : Nat} {n x : Int} {A : Option Addr} {m c : Nat} (hS : tenementlaw15_examples.St w g n (.slice A m c)) (n0 : 0 ≤ n) (n1 : n ≤ 1000) (m1 : m ≤ 1000) (hx : n + (m : Int) < x ∨ x ≤ n) :
  Calls Try.prog 54 #[.pointer (some ⟨g, 0, none⟩), .int .u64 x] w fun e w' => e = .returned (.bool false) ∧ Below w.heap.size w w' := by
 have HS := Aside0.mk hS
 clear hS
 by_cases hgt : n + (m : Int) < x
 ·have c1 : decide (n + (m : Int) < x) = true := decide_eq_true hgt
  go_enter Try.func54, Try.ntmps54
  go_wp2_with (first | (go_at_call 56; (with_reducible refine (tenementlaw15_examples.last_c _ HS.out n0 n1 m1).mono ?_); rintro e w2 ⟨rfl, hb⟩; have HB2 := Aside0.mk hb; clear hb))
  go_ret
  exact ⟨rfl, HB2.out⟩
 ·have c1 : decide (n + (m : Int) < x) = false := decide_eq_false hgt
  have hle : x ≤ n := hx.resolve_left hgt
  have c2 : decide (x ≤ n) = true := decide_eq_true hle
  go_enter Try.func54, Try.ntmps54
  go_wp2_with (first | (go_at_call 56; (with_reducible refine (tenementlaw15_examples.last_c _ HS.out n0 n1 m1).mono ?_); rintro e w2 ⟨rfl, hb⟩; have HB2 := Aside0.mk hb; have h0 : w2.cell? ⟨g, 0, none⟩ = some (.int .u64 n) := ((blk_cell (blk_below HS.out hb) 0).trans rfl); clear hb))
  go_ret
  exact ⟨rfl, HB2.out⟩
set_option maxHeartbeats 4000000 in
set_option maxRecDepth 100000 in
theorem tenementlaw15_examples.ack_yes (w0 w : World) {g : Nat} {n x : Int} {A : Option Addr} {m c j : Nat} (hS : tenementlaw15_examples.St w g n (.slice A m c)) (hB : Below w0.heap.size w0 w) (hg : w0.heap.size ≤ g) (n0 : 0 ≤ n) (n1 : n ≤ 1000) (m1 : m ≤ 1000) (hx : x = n + (j : Int)) (hj : 1 ≤ j) (hjm : j ≤ m) (hmc : m ≤ c) :
  Calls Try.prog 54 #[.pointer (some ⟨g, 0, none⟩), .int .u64 x] w fun e w' => e = .returned (.bool true) ∧ tenementlaw15_examples.St w' g x (.slice (if c = j then A else A.map (·.add j)) (m - j) (c - j)) ∧ KeepBut w w' g none ∧ Below w0.heap.size w0 w' := by
 have HS := Aside0.mk hS
 have HB := Aside0.mk hB
 clear hS hB
 have c1 : decide (n + (m : Int) < x) = false := decide_eq_false (by omega)
 have c2 : decide (x ≤ n) = false := decide_eq_false (by omega)
 have e3 : IntKind.u64.wrap (x - n) = (j : Int) := by rw [show x - n = (j : Int) by omega]; exact tenementlaw15_examples.w64 (by omega) (by omega)
 have d1 : (0 : Int) ≤ (j : Int) := by omega
 have d2 : (j : Int) ≤ (m : Int) := by omega
 have d3 : (m : Int) ≤ (c : Int) := by omega
 clear hx
 go_enter Try.func54, Try.ntmps54
 go_wp2_with (first | (go_at_call 56; (with_reducible refine (tenementlaw15_examples.last_c _ HS.out n0 n1 m1).mono ?_); rintro e w2 ⟨rfl, hb⟩; have HB2 := Aside0.mk hb; have HS2 := Aside0.mk (blk_below HS.out hb); obtain ⟨h0, h1, f0, f1⟩ := Ke2_ HS2.out; clear hb))
 go_region
 all_goals go_wp2
 all_goals
  have hsz : w.heap.size ≤ w2.heap.size := HB2.out.size
  go_ret
  refine ⟨rfl, blk_drew (blk_put (blk_put HS2.out 1 _ rfl) 0 _ rfl), ⟨by simpa using hsz, fun i hi hne _ => ?_⟩, below_drew1 (((below_step HB.out HB2.out).setCell hg _).setCell hg _)⟩
  refine (Below.heap_setCell _ _ _ i hne).trans ((Below.heap_setCell _ _ _ i hne).trans (HB2.out.block i hi))
def tenementlaw15_examples.T : ByteArray := ⟨#[2, 2, 172, 2, 100, 117, 81, 48]⟩
theorem tenementlaw15_examples.put : stream_Put.f 100 2 2 300 0 0 0 0 0 [] = some (tenementlaw15_examples.T, true) := by kernel_rfl
theorem tenementlaw15_examples.get : stream_Get.f 100 tenementlaw15_examples.T = some (2, 2, 300, 0, 0, 0, 0, 0, [], 0) := by kernel_rfl
theorem tenementlaw15_examples.right : stream_Right.f 100 0 0 0 0 0 0 0 0 [] = some false := by kernel_rfl
theorem tenementlaw15_examples.ready1 : stream_Ready.f 1 1 0 0 2 1 0 0 1 = some 1 := by kernel_rfl
theorem tenementlaw15_examples.ready2 : stream_Ready.f 2 1 0 0 2 1 0 0 1 = some (-1) := by kernel_rfl
theorem tenementlaw15_examples.ready3 : stream_Ready.f 1 0 0 0 2 1 0 0 1 = some 0 := by kernel_rfl
theorem tenementlaw15_examples.nilC (w : World) : Kd.C k107 w none ([] : List S107).length [] := ⟨rfl, by simp, fun h => absurd h (Nat.lt_irrefl 0)⟩
def tenementlaw15_examples.f : Option Bool := some true
set_option maxHeartbeats 8000000 in
set_option maxRecDepth 100000 in
theorem tenementlaw15_examples.calls (r : Bool) (w : World) (h : tenementlaw15_examples.f = some r) : Calls Try.prog 11 #[] w fun e w' => e = .returned (.bool r) ∧ Below w.heap.size w w' := by
 obtain rfl := Option.some.inj h
 clear h
 go_enter Try.func11, Try.ntmps11
 go_wp2_with (first
  | (go_at_call 51; (with_reducible refine (tenementlaw15_examples.new_c _).mono ?_); rintro e wc ⟨rfl, hS, hb⟩; have HS := Aside0.mk hS; have HB := Aside0.mk hb; have HR := Aside0.mk (Kd.R_nil Kd.string 9 wc w.heap.size (fun k => k ≠ w.heap.size)); clear hS hb)
  | (go_at_call 52; (with_reducible refine (tenementlaw15_examples.push_c w _ _ HS.out HR.out HB.out (Nat.le_refl _) (by decide) (by decide) (by simp)).mono ?_); rintro e wc ⟨rfl, ⟨v, hS, hR⟩, hB⟩; (simp only [List.nil_append, List.cons_append] at hR); obtain ⟨A, c, ev, hc, hC⟩ := Kd.R_reads hR; subst ev; have HS := Aside0.mk hS; have HR := Aside0.mk hR; have HB := Aside0.mk hB; have HC := Aside0.mk hC; clear hS hR hB hC)
  | (go_at_call 53; (with_reducible refine (tenementlaw15_examples.rest_c _ HS.out HC.out hc (by decide)).mono ?_); rintro e wc ⟨v3, rfl, hR3, hb⟩; obtain ⟨A3, c3, ev, _, hC3⟩ := Kd.R_reads hR3; subst ev; have HL := Aside0.mk hC3; have HS := Aside0.mk (HS.out.below hb); have HC := Aside0.mk (Kd.C_below HC.out hb); have HR := Aside0.mk (Kd.R_below HR.out hb); have HB := Aside0.mk (below_step HB.out hb); clear hR3 hC3 hb)
  | (go_at_call 54; (with_reducible refine (tenementlaw15_examples.ack_no _ HS.out (by decide) (by decide) (by decide) ?hx).mono ?_); (case hx => first | decide | (simp; done)); rintro e wc ⟨rfl, hb⟩; have HS := Aside0.mk (HS.out.below hb); have HC := Aside0.mk (Kd.C_below HC.out hb); have HR := Aside0.mk (Kd.R_below HR.out hb); have HB := Aside0.mk (below_step HB.out hb); clear hb)
  | (go_at_call 54; (with_reducible refine (tenementlaw15_examples.ack_yes w _ (j := 1) HS.out HB.out (Nat.le_refl _) (by decide) (by decide) (by decide) ?hx (by decide) (by decide) hc).mono ?_); (case hx => first | decide | (simp; done)); rintro e wc ⟨rfl, hS, hk, hB⟩; have HS := Aside0.mk hS; have HB := Aside0.mk hB; have HR := Aside0.mk (Kd.R_keep HR.out hk (fun k hk => hk)); have HC := Aside0.mk (Kd.C_drop (m := 1) (Kd.R_reads' HR.out).2.2 (by decide) hc); have hc : ([⟨#[98]⟩] : List ByteArray).length ≤ c - 1 := (by have : 2 ≤ c := hc; show 1 ≤ c - 1; omega); clear hS hk hB)
  | (go_at_call 27; refine (stream_Put.calls 100 2 2 300 0 0 0 0 0 none 0 [] _ _ _ (tenementlaw15_examples.nilC _) (by simp) tenementlaw15_examples.put).mono ?_; rintro e wd ⟨rfl, hb⟩; have hbq := below_step (below_alloc (Below.refl wc.heap.size wc) _) hb; have HT := Aside0.mk (blk_below (blk_new wc (Obj.cells #[.int .u64 2, .int .u64 1, .int .u64 0, .int .u64 0, .int .i64 1] 30)) hb); have HS := Aside0.mk (HS.out.below hbq); have HL := Aside0.mk (Kd.C_below HL.out hbq); have HB := Aside0.mk (below_step HB.out hbq); clear hb hbq)
  | (go_at_call 36; refine (stream_Get.calls 100 tenementlaw15_examples.T 2 2 300 0 0 0 0 0 [] 0 _ tenementlaw15_examples.get).mono ?_; rintro e we ⟨v8, rfl, hR8, hb⟩; obtain ⟨A8, c8, e8, _, _⟩ := Kd.R_reads hR8; subst e8; have HT := Aside0.mk (blk_below HT.out hb); have HS := Aside0.mk (HS.out.below hb); have HL := Aside0.mk (Kd.C_below HL.out hb); have HB := Aside0.mk (below_step HB.out hb); obtain ⟨ad, ea, hq⟩ := Kd.at_string HL.out 0 (by decide) (by decide); cases ea; have hq0 : ∀ o, (we.alloc o).cell? (ad.add 0) = some (.string ⟨#[98]⟩) := (fun o => (World.cell?_alloc_lt _ _ _ (World.block_lt_of_cell? _ _ hq)).trans hq); have hq1 : ∀ o, (we.alloc o).cell? ad = some (.string ⟨#[98]⟩) := (fun o => by have ha : ad.add 0 = ad := (by simp [Addr.add]); have h2 := hq0 o; rwa [ha] at h2); clear hR8 hb)
  | (go_at_call 55; (with_reducible refine (tenementlaw15_examples.acked_c _ (HS.out.alloc _)).mono ?_); rintro e wc ⟨rfl, hb⟩; have HM := Aside0.mk (blk_below (blk_new we (Obj.cells #[.int .i64 2, .int .i64 2, .int .u64 300, .int .u64 0, .int .u64 0, .int .u64 0, .int .u64 0, .int .i64 0, .slice A8 0 c8] 69)) hb); have HT := Aside0.mk (blk_below (blk_alloc HT.out _) hb); have HS := Aside0.mk ((HS.out.alloc _).below hb); have HB := Aside0.mk (below_step (below_alloc HB.out _) hb); obtain ⟨t0, t1, t2, t3, t4⟩ := Kc5_ HT.out; obtain ⟨m0, m1, m2, m3, m4, m5, m6, m7, m8⟩ := Kc9_ HM.out; clear hb)
  | (go_at_call 56; (with_reducible refine (tenementlaw15_examples.last_c _ HS.out (by decide) (by decide) (by decide)).mono ?_); rintro e wc ⟨rfl, hb⟩; have HS := Aside0.mk (HS.out.below hb); have HT := Aside0.mk (blk_below HT.out hb); have HM := Aside0.mk (blk_below HM.out hb); have HB := Aside0.mk (below_step HB.out hb); obtain ⟨t0, t1, t2, t3, t4⟩ := Kc5_ HT.out; obtain ⟨m0, m1, m2, m3, m4, m5, m6, m7, m8⟩ := Kc9_ HM.out; clear hb)
  | (go_at_call 30; (with_reducible refine (stream_Ready.calls 1 1 0 0 2 1 0 0 1 _ _ tenementlaw15_examples.ready1).mono ?_); rintro e wc ⟨rfl, hb⟩; have HS := Aside0.mk (HS.out.below hb); have HT := Aside0.mk (blk_below HT.out hb); have HM := Aside0.mk (blk_below HM.out hb); have HB := Aside0.mk (below_step HB.out hb); obtain ⟨t0, t1, t2, t3, t4⟩ := Kc5_ HT.out; obtain ⟨m0, m1, m2, m3, m4, m5, m6, m7, m8⟩ := Kc9_ HM.out; clear hb)
  | (go_at_call 30; (with_reducible refine (stream_Ready.calls 2 1 0 0 2 1 0 0 1 _ _ tenementlaw15_examples.ready2).mono ?_); rintro e wc ⟨rfl, hb⟩; have HS := Aside0.mk (HS.out.below hb); have HT := Aside0.mk (blk_below HT.out hb); have HM := Aside0.mk (blk_below HM.out hb); have HB := Aside0.mk (below_step HB.out hb); obtain ⟨t0, t1, t2, t3, t4⟩ := Kc5_ HT.out; obtain ⟨m0, m1, m2, m3, m4, m5, m6, m7, m8⟩ := Kc9_ HM.out; clear hb)
  | (go_at_call 30; (with_reducible refine (stream_Ready.calls 1 0 0 0 2 1 0 0 1 _ _ tenementlaw15_examples.ready3).mono ?_); rintro e wc ⟨rfl, hb⟩; have HS := Aside0.mk (HS.out.below hb); have HT := Aside0.mk (blk_below HT.out hb); have HM := Aside0.mk (blk_below HM.out hb); have HB := Aside0.mk (below_step HB.out hb); obtain ⟨t0, t1, t2, t3, t4⟩ := Kc5_ HT.out; obtain ⟨m0, m1, m2, m3, m4, m5, m6, m7, m8⟩ := Kc9_ HM.out; clear hb)
  | (go_at_call 33; refine (stream_Right.calls 100 0 0 0 0 0 0 0 0 none 0 [] _ _ (tenementlaw15_examples.nilC _) (by simp) tenementlaw15_examples.right).mono ?_; rintro e wc ⟨rfl, hb⟩; have HB := Aside0.mk (below_step HB.out hb); clear hb))
 go_ret
 exact ⟨rfl, HB.out⟩
def tenementlaw15_StreamSends.St (w : World) (g : Nat) (n : Int) (v : Value) : Prop := w.heap[g]? = some (.cells #[.int .u64 n, v] 151 (0, 0))
theorem tenementlaw15_StreamSends.St.below {w w1 : World} {g : Nat} {n : Int} {v : Value} (h : tenementlaw15_StreamSends.St w g n v) (hb : Below w.heap.size w w1) : tenementlaw15_StreamSends.St w1 g n v := blk_below h hb
theorem tenementlaw15_StreamSends.St.alloc {w : World} {g : Nat} {n : Int} {v : Value} (h : tenementlaw15_StreamSends.St w g n v) (o : Obj) : tenementlaw15_StreamSends.St (w.alloc o) g n v := blk_alloc h o
theorem tenementlaw15_StreamSends.info : (Try.prog.info? 3).map (fun i => (i.zero, i.size, i.bytes)) = some (some (.int .i64 0), 1, 8) := by kernel_rfl
theorem tenementlaw15_StreamSends.w64 {x : Int} (h0 : 0 ≤ x) (h1 : x ≤ 1000000) : IntKind.u64.wrap x = x := by
 rw [IntKind.wrap_u64]
 omega
set_option maxHeartbeats 4000000 in
theorem tenementlaw15_StreamSends.new_c (w : World) : Calls Try.prog 39 #[] w fun e w' => e = .returned (.pointer (some ⟨w.heap.size, 0, none⟩)) ∧ tenementlaw15_StreamSends.St w' w.heap.size 0 (.slice none 0 0) ∧ Below w.heap.size w w' := by
 go_enter Try.func39, Try.ntmps39
 go_wp2
 go_ret
 exact ⟨rfl, blk_new _ _, below_alloc (Below.refl _ _) _⟩
set_option maxHeartbeats 4000000 in
theorem tenementlaw15_StreamSends.acked_c (w : World) {g : Nat} {n : Int} {v : Value} (hS : tenementlaw15_StreamSends.St w g n v) : Calls Try.prog 43 #[.pointer (some ⟨g, 0, none⟩)] w fun e w' => e = .returned (.int .u64 n) ∧ Below w.heap.size w w' := by
 have h0 : w.cell? ⟨g, 0, none⟩ = some (.int .u64 n) := (blk_cell hS 0).trans rfl
 have h1 : w.cell? ⟨g, 1, none⟩ = some v := (blk_cell hS 1).trans rfl
 have HS := Aside0.mk hS
 clear hS
 go_enter Try.func43, Try.ntmps43
 go_wp2
 try (go_region; go_wp2)
 go_ret
 exact ⟨rfl, by first | exact Below.refl _ _ | exact below_drew1 (Below.refl _ _)⟩
set_option maxHeartbeats 4000000 in
theorem tenementlaw15_StreamSends.last_c (w : World) {g : Nat} {n : Int} {A : Option Addr} {m c : Nat} (hS : tenementlaw15_StreamSends.St w g n (.slice A m c)) (n0 : 0 ≤ n) (n1 : n ≤ 1000) (m1 : m ≤ 1000) : Calls Try.prog 44 #[.pointer (some ⟨g, 0, none⟩)] w fun e w' => e = .returned (.int .u64 (n + (m : Int))) ∧ Below w.heap.size w w' := by
 have h0 : w.cell? ⟨g, 0, none⟩ = some (.int .u64 n) := (blk_cell hS 0).trans rfl
 have h1 : w.cell? ⟨g, 1, none⟩ = some (.slice A m c) := (blk_cell hS 1).trans rfl
 have e1 : IntKind.u64.wrap (m : Int) = m := tenementlaw15_StreamSends.w64 (by omega) (by omega)
 have e2 : IntKind.u64.wrap (n + (m : Int)) = n + (m : Int) := tenementlaw15_StreamSends.w64 (by omega) (by omega)
 clear hS
 go_enter Try.func44, Try.ntmps44
 go_wp2
 go_region
 all_goals go_wp2
 go_ret
 exact ⟨rfl, below_drew1 (Below.refl _ _)⟩
set_option maxHeartbeats 4000000 in
theorem tenementlaw15_StreamSends.push_c (w0 w : World) {g : Nat} {n : Int} {v : Value} {xs : List Int} (x r : Int) (hr : n + ((xs.length : Int) + 1) = r) (hS : tenementlaw15_StreamSends.St w g n v) (hR : Kd.Q (Kd.int .i64) 3 w w0.heap.size (fun k => k ≠ g) v xs) (hB : Below w0.heap.size w0 w) (hg : w0.heap.size ≤ g) (n0 : 0 ≤ n) (n1 : n ≤ 900) (m1 : xs.length ≤ 900) :
  Calls Try.prog 40 #[.pointer (some ⟨g, 0, none⟩), .int .i64 x] w fun e w' => e = .returned (.int .u64 r) ∧ (∃ v', tenementlaw15_StreamSends.St w' g n v' ∧ Kd.Q (Kd.int .i64) 3 w' w0.heap.size (fun k => k ≠ g) v' (xs ++ [x])) ∧ Below w0.heap.size w0 w' := by
 obtain ⟨A, c, rfl, hc, _⟩ := Kd.Q_reads hR
 have h0 : w.cell? ⟨g, 0, none⟩ = some (.int .u64 n) := (blk_cell hS 0).trans rfl
 have h1 : w.cell? ⟨g, 1, none⟩ = some (.slice A xs.length c) := (blk_cell hS 1).trans rfl
 have HS := Aside0.mk hS
 have HR := Aside0.mk hR
 have HB := Aside0.mk hB
 have HGL := Aside0.mk (blk_lt hS)
 have hn9 : n ≤ 1000 := by omega
 have hm9 : xs.length + 1 ≤ 1000 := by omega
 have hl9 : (xs ++ [x]).length = xs.length + 1 := by rw [List.length_append, List.length_singleton]
 clear hS hR hB
 subst hr
 go_enter Try.func40, Try.ntmps40
 go_wp2_with (first
  | ((with_reducible refine gate_builtin (b := .append) (xs := #[.tmp 9, .tmp 11]) rfl ?_); at_builtin; refine Kd.Q_append (Kd.int .i64) (w0 := w0) w0.heap.size rfl (.tmp 9) (.tmp 11) 95 3 (.int .i64 0) 8 rfl Try.underlying95 tenementlaw15_StreamSends.info rfl (by decide) (by omega) (.slice A xs.length c) xs x [.int .i64 x] (fun k => k ≠ g) (fun _ => False) rfl rfl ?aP (fun _ hk => hk.elim) ?aF ?aO ?aB ?aS ?aL ?_; (case aP => rfl); (case aF => exact (fun k hk => by have := HGL.out; omega)); (case aO => exact HR.out); (case aB => exact HB.out); (case aS => exact below_size HB.out); (case aL => omega); intro v1 w1 ho hb hg1 hat; have HO := Aside0.mk ho; have HB1 := Aside0.mk hb; have HS1 := Aside0.mk (blk_grown HS.out hg1 (fun e => HR.out.1 g e.symm rfl)); have h11 : w1.cell? ⟨g, 1, none⟩ = some (.slice A xs.length c) := ((blk_cell HS1.out 1).trans rfl); have h1f := blk_frozen HS1.out 1; obtain ⟨A1, c1, e1, _, _⟩ := Kd.Q_reads ho; subst e1; have HS2 : Aside0 (tenementlaw15_StreamSends.St (w1.setCell ⟨g, 1, none⟩ (.slice A1 (xs.length + 1) c1)) g n (.slice A1 (xs.length + 1) c1)) := ⟨blk_put HS1.out 1 (.slice A1 (xs.length + 1) c1) rfl⟩; rw [hl9] at HO; clear ho hb hg1 hat)
  | (go_at_call 44; (with_reducible refine (tenementlaw15_StreamSends.last_c _ HS2.out n0 hn9 hm9).mono ?_); rintro e w2 ⟨rfl, hb⟩; have HB2 := Aside0.mk hb; clear hb))
 go_ret
 refine ⟨?_, ⟨_, blk_below HS2.out HB2.out, Kd.Q_below (Kd.Q_far HO.out (p := ⟨g, 1, none⟩) (fun k hk => hk) _) HB2.out⟩, below_step (HB1.out.setCell hg _) HB2.out⟩
 rfl
set_option maxHeartbeats 4000000 in
theorem tenementlaw15_StreamSends.rest_c (w : World) {g : Nat} {n : Int} {A : Option Addr} {c : Nat} {xs : List Int} (hS : tenementlaw15_StreamSends.St w g n (.slice A xs.length c)) (hC : Kd.C (Kd.int .i64) w A xs.length xs) (hc : xs.length ≤ c) (k : Int) (ys : List Int) (hk : ys.length ≤ xs.length) (hy : ys = xs.take ys.length) (hm : (if (if (xs.length : Int) < k then (xs.length : Int) else k) < 0 then 0 else (if (xs.length : Int) < k then (xs.length : Int) else k)) = (ys.length : Int)) (m1 : xs.length ≤ 1000) :
  Calls Try.prog 42 #[.pointer (some ⟨g, 0, none⟩), .int .i64 k] w fun e w' => ∃ v, e = .returned v ∧ Kd.R (Kd.int .i64) 3 w' w.heap.size (fun _ => True) v ys ∧ Below w.heap.size w w' := by
 have h0 : w.cell? ⟨g, 0, none⟩ = some (.int .u64 n) := (blk_cell hS 0).trans rfl
 have h1 : w.cell? ⟨g, 1, none⟩ = some (.slice A xs.length c) := (blk_cell hS 1).trans rfl
 have HC := Aside0.mk (show Kd.C (Kd.int .i64) w A ys.length ys by rw [hy, List.length_take, Nat.min_eq_left hk]; have := Kd.C_take (m := ys.length) hC hk; rw [List.length_take, Nat.min_eq_left hk] at this; exact this)
 obtain ⟨q, hmin⟩ : ∃ q, (if (xs.length : Int) < k then (xs.length : Int) else k) = q := ⟨_, rfl⟩
 rw [hmin] at hm
 have hm0 : (0 : Int) ≤ (ys.length : Int) := by omega
 have hmc : (ys.length : Int) ≤ (c : Int) := by omega
 have hy9 : ys.length ≤ 1000 := by omega
 clear hS hC hy
 go_enter Try.func42, Try.ntmps42
 go_wp2
 refine start_ (n := 15) (S := fun w' => w'.cell? ⟨g, 0, none⟩ = some (.int .u64 n) ∧ w'.cell? ⟨g, 1, none⟩ = some (.slice A xs.length c)) (ds := []) (mB_ 15 0) (by kernel_rfl) rfl rfl ⟨h0, h1⟩ (fun hHeld => ?_)
 refine Kp_ 0 5 (mB_ 15 1) (by kernel_rfl) ?_
 refine Kp_ 1 6 (mB_ 15 3) (by kernel_rfl) ?_
 refine Kp_ 2 7 (mB_ 15 7) (by kernel_rfl) ?_
 refine Ko_ 3 8 (mB_ 15 15) (by kernel_rfl) hHeld ?_
 refine Kp_ 4 9 (mB_ 15 31) (by kernel_rfl) ?_
 refine Kp_ 5 10 (mB_ 15 63) (by kernel_rfl) ?_
 refine Kp_ 6 11 (mB_ 15 127) (by kernel_rfl) ?_
 refine Kp_ 7 12 (mB_ 15 255) (by kernel_rfl) ?_
 refine Ko_ 8 13 (mB_ 15 511) (by kernel_rfl) hHeld ?_
 refine Kp_ 9 14 (mB_ 15 1023) (by kernel_rfl) ?_
 refine Kp_ 10 15 (mB_ 15 2047) (by kernel_rfl) ?_
 refine Kp_ 11 16 (mB_ 15 4095) (by kernel_rfl) ?_
 refine Kp_ 12 17 (mB_ 15 8191) (by kernel_rfl) ?_
 refine one_ (i := 13) (N := some 18) (mB_ 15 16383) rfl rfl (by kernel_rfl) (by decide) (fun K hK => ?_)
 refine Kd.R_append_rows_step (Kd.int .i64) (w0 := w) w.heap.size (by rfl) (.const (.slice none 0 0)) (.tmp 17) 95 3 (.int .i64 0) 8 rfl Try.underlying95 tenementlaw15_StreamSends.info rfl (by decide) (by omega) (.slice none 0 0) ([] : List Int) ys _ _ _ (fun _ => True) (fun _ => False) rfl rfl ?aO ?aR (fun _ _ h => h) (fun _ h => h.elim) ?aF ?aB ?aS ?aL ?_
 (case aO => exact Kd.R_nil _ _ _ _ _)
 (case aR => exact HC.out)
 (case aF => exact (fun _ _ => trivial))
 (case aB => exact below_drew1 (Below.refl _ _))
 (case aS => exact Nat.le_refl _)
 (case aL => rw [List.length_nil]; omega)
 intro v1 w6 ho hb hg6 hat
 have HO := Aside0.mk ho
 have HB6 := Aside0.mk hb
 clear ho hg6 hat
 refine hK.out _ _ ⟨(hb.cell (World.block_lt_of_cell? _ _ h0)).trans h0, (hb.cell (World.block_lt_of_cell? _ _ h1)).trans h1⟩ (fun hHeld => ?_)
 clear hb hK K
 refine Kn_ 18 ?_
 refine Kp_ 14 4 (mB_ 15 32767) (by kernel_rfl) ?_
 refine done_ (by kernel_rfl) ?_
 try go_wp2
 go_ret
 exact ⟨_, rfl, HO.out, HB6.out⟩
set_option maxHeartbeats 4000000 in
theorem tenementlaw15_StreamSends.ack_no (w : World) {g : Nat} {n x : Int} {A : Option Addr} {m c : Nat} (hS : tenementlaw15_StreamSends.St w g n (.slice A m c)) (n0 : 0 ≤ n) (n1 : n ≤ 1000) (m1 : m ≤ 1000) (hx : n + (m : Int) < x ∨ x ≤ n) :
  Calls Try.prog 41 #[.pointer (some ⟨g, 0, none⟩), .int .u64 x] w fun e w' => e = .returned (.bool false) ∧ Below w.heap.size w w' := by
 have HS := Aside0.mk hS
 clear hS
 by_cases hgt : n + (m : Int) < x
 ·have c1 : decide (n + (m : Int) < x) = true := decide_eq_true hgt
  go_enter Try.func41, Try.ntmps41
  go_wp2_with (first | (go_at_call 44; (with_reducible refine (tenementlaw15_StreamSends.last_c _ HS.out n0 n1 m1).mono ?_); rintro e w2 ⟨rfl, hb⟩; have HB2 := Aside0.mk hb; clear hb))
  go_ret
  exact ⟨rfl, HB2.out⟩
 ·have c1 : decide (n + (m : Int) < x) = false := decide_eq_false hgt
  have hle : x ≤ n := hx.resolve_left hgt
  have c2 : decide (x ≤ n) = true := decide_eq_true hle
  go_enter Try.func41, Try.ntmps41
  go_wp2_with (first | (go_at_call 44; (with_reducible refine (tenementlaw15_StreamSends.last_c _ HS.out n0 n1 m1).mono ?_); rintro e w2 ⟨rfl, hb⟩; have HB2 := Aside0.mk hb; have h0 : w2.cell? ⟨g, 0, none⟩ = some (.int .u64 n) := ((blk_cell (blk_below HS.out hb) 0).trans rfl); clear hb))
  go_ret
  exact ⟨rfl, HB2.out⟩
set_option maxHeartbeats 4000000 in
set_option maxRecDepth 100000 in
theorem tenementlaw15_StreamSends.ack_yes (w0 w : World) {g : Nat} {n x : Int} {A : Option Addr} {m c j : Nat} (hS : tenementlaw15_StreamSends.St w g n (.slice A m c)) (hB : Below w0.heap.size w0 w) (hg : w0.heap.size ≤ g) (n0 : 0 ≤ n) (n1 : n ≤ 1000) (m1 : m ≤ 1000) (hx : x = n + (j : Int)) (hj : 1 ≤ j) (hjm : j ≤ m) (hmc : m ≤ c) :
  Calls Try.prog 41 #[.pointer (some ⟨g, 0, none⟩), .int .u64 x] w fun e w' => e = .returned (.bool true) ∧ tenementlaw15_StreamSends.St w' g x (.slice (if c = j then A else A.map (·.add j)) (m - j) (c - j)) ∧ KeepBut w w' g none ∧ Below w0.heap.size w0 w' := by
 have HS := Aside0.mk hS
 have HB := Aside0.mk hB
 clear hS hB
 have c1 : decide (n + (m : Int) < x) = false := decide_eq_false (by omega)
 have c2 : decide (x ≤ n) = false := decide_eq_false (by omega)
 have e3 : IntKind.u64.wrap (x - n) = (j : Int) := by rw [show x - n = (j : Int) by omega]; exact tenementlaw15_StreamSends.w64 (by omega) (by omega)
 have d1 : (0 : Int) ≤ (j : Int) := by omega
 have d2 : (j : Int) ≤ (m : Int) := by omega
 have d3 : (m : Int) ≤ (c : Int) := by omega
 clear hx
 go_enter Try.func41, Try.ntmps41
 go_wp2_with (first | (go_at_call 44; (with_reducible refine (tenementlaw15_StreamSends.last_c _ HS.out n0 n1 m1).mono ?_); rintro e w2 ⟨rfl, hb⟩; have HB2 := Aside0.mk hb; have HS2 := Aside0.mk (blk_below HS.out hb); obtain ⟨h0, h1, f0, f1⟩ := Ke2_ HS2.out; clear hb))
 go_region
 all_goals go_wp2
 all_goals
  have hsz : w.heap.size ≤ w2.heap.size := HB2.out.size
  go_ret
  refine ⟨rfl, blk_drew (blk_put (blk_put HS2.out 1 _ rfl) 0 _ rfl), ⟨by simpa using hsz, fun i hi hne _ => ?_⟩, below_drew1 (((below_step HB.out HB2.out).setCell hg _).setCell hg _)⟩
  refine (Below.heap_setCell _ _ _ i hne).trans ((Below.heap_setCell _ _ _ i hne).trans (HB2.out.block i hi))
def tenementlaw15_StreamSends.row (a j : Nat) : List Int := (List.range (j - a)).map (fun t => ((a + 1 + t : Nat) : Int))
theorem tenementlaw15_StreamSends.row_len (a j : Nat) : (tenementlaw15_StreamSends.row a j).length = j - a := by unfold tenementlaw15_StreamSends.row; simp
theorem tenementlaw15_StreamSends.row_push (a j : Nat) (h : a ≤ j) : tenementlaw15_StreamSends.row a j ++ [((j + 1 : Nat) : Int)] = tenementlaw15_StreamSends.row a (j + 1) := by
 unfold tenementlaw15_StreamSends.row
 rw [show j + 1 - a = (j - a) + 1 by omega, List.range_succ, List.map_append, List.map_singleton, show a + 1 + (j - a) = j + 1 by omega]
theorem tenementlaw15_StreamSends.row_drop (a n j : Nat) (h : a ≤ n) (hj : n ≤ j) : (tenementlaw15_StreamSends.row a j).drop (n - a) = tenementlaw15_StreamSends.row n j := by
 unfold tenementlaw15_StreamSends.row
 apply List.ext_getElem
 ·simp only [List.length_drop, List.length_map, List.length_range]; omega
 ·intro i h1 h2
  simp only [List.getElem_drop, List.getElem_map, List.getElem_range]
  congr 1
  omega
theorem tenementlaw15_StreamSends.w64a {x : Int} (h0 : -1000 ≤ x) (h1 : x ≤ 1000000) : wrap64 x = x := by
 unfold wrap64
 omega
theorem tenementlaw15_StreamSends.zz {a' a2 b z : Nat} (h : a2 = a' + 1) (hz : z = a2 + b) : (a' : Int) + 1 + (b : Int) = (z : Int) := by omega
theorem tenementlaw15_StreamSends.clampm {m : Nat} {k : Int} {t : Nat} (h : (k ≤ 0 ∧ t = 0) ∨ (0 ≤ k ∧ (t : Int) ≤ k ∧ t ≤ m ∧ ((t : Int) = k ∨ t = m))) : (if (if (m : Int) < k then (m : Int) else k) < 0 then 0 else (if (m : Int) < k then (m : Int) else k)) = (t : Int) := by
 by_cases h1 : (m : Int) < k
 ·simp only [if_pos h1]
  rw [if_neg (by omega)]
  omega
 ·simp only [if_neg h1]
  by_cases h2 : k < 0
  ·rw [if_pos h2]; omega
  ·rw [if_neg h2]; omega
theorem tenementlaw15_StreamSends.ar {j j1 n a' d q t a2 : Nat} (h1 : j1 = j + 1) (h2 : j ≤ 30) (h3 : n ≤ 40) (h4 : a' ≤ j1) (h5 : d = j1 - a') (h6 : t = min q d) (h7 : a2 = a' + 1) :
  wrap64 ((j : Int) + 1) = (j1 : Int) ∧ (j : Int) + 1 = (j1 : Int) ∧ IntKind.u64.wrap (j1 : Int) = (j1 : Int) ∧ IntKind.u64.wrap (n : Int) = (n : Int) ∧ IntKind.u64.wrap (a' : Int) = (a' : Int) ∧ wrap64 ((j1 : Int) - (a' : Int)) = (d : Int) ∧ (j1 : Int) - (a' : Int) = (d : Int) ∧ (if (d : Int) < (q : Int) then (d : Int) else (q : Int)) = (t : Int) ∧ wrap64 ((a' : Int) + 1) = (a2 : Int) ∧ (a' : Int) + 1 = (a2 : Int) ∧ wrap64 (n : Int) = (n : Int) ∧ wrap64 (a' : Int) = (a' : Int) := by
 have e1 : (j : Int) + 1 = (j1 : Int) := by omega
 have e2 : (j1 : Int) - (a' : Int) = (d : Int) := by omega
 have e3 : (a' : Int) + 1 = (a2 : Int) := by omega
 refine ⟨?_, e1, tenementlaw15_StreamSends.w64 (by omega) (by omega), tenementlaw15_StreamSends.w64 (by omega) (by omega), tenementlaw15_StreamSends.w64 (by omega) (by omega), ?_, e2, by split <;> omega, ?_, e3, tenementlaw15_StreamSends.w64a (by omega) (by omega), tenementlaw15_StreamSends.w64a (by omega) (by omega)⟩
 ·rw [e1]; exact tenementlaw15_StreamSends.w64a (by omega) (by omega)
 ·rw [e2]; exact tenementlaw15_StreamSends.w64a (by omega) (by omega)
 ·rw [e3]; exact tenementlaw15_StreamSends.w64a (by omega) (by omega)
set_option maxHeartbeats 4000000 in
theorem tenementlaw15_StreamSends.ack_both (w0 w : World) {g a j n : Nat} {v : Value} (hS : tenementlaw15_StreamSends.St w g a v) (hQ : Kd.Q (Kd.int .i64) 3 w w0.heap.size (fun k => k ≠ g) v (tenementlaw15_StreamSends.row a j)) (hB : Below w0.heap.size w0 w) (hg : w0.heap.size ≤ g) (haj : a ≤ j) (hj : j ≤ 100) (hn : n ≤ 100) (b : Bool) (a' : Nat) (hb : b = decide (a < n ∧ n ≤ j)) (ha : a' = if b = true then n else a) :
  Calls Try.prog 41 #[.pointer (some ⟨g, 0, none⟩), .int .u64 n] w fun e w' => e = .returned (.bool b) ∧ (∃ v', tenementlaw15_StreamSends.St w' g a' v' ∧ Kd.Q (Kd.int .i64) 3 w' w0.heap.size (fun k => k ≠ g) v' (tenementlaw15_StreamSends.row a' j)) ∧ Below w0.heap.size w0 w' := by
 obtain ⟨A, c, rfl, hc, _⟩ := Kd.Q_reads hQ
 have hl := tenementlaw15_StreamSends.row_len a j
 by_cases h : a < n ∧ n ≤ j
 ·rw [decide_eq_true h] at hb
  subst hb
  rw [if_pos rfl] at ha
  subst ha
  refine (tenementlaw15_StreamSends.ack_yes w0 w (j := a' - a) hS hB hg (by omega) (by omega) (by omega) (by omega) (by omega) (by omega) hc).mono ?_
  rintro e w' ⟨rfl, h1, h2, h3⟩
  have hq := Kd.Q_drop (k := a' - a) (Kd.Q_keep hQ h2 (fun k h => h)) (by omega)
  simp only [show (Kd.int IntKind.i64).sz = 1 from rfl, Nat.mul_one] at hq
  rw [tenementlaw15_StreamSends.row_drop a a' j (by omega) h.2] at hq
  exact ⟨rfl, ⟨_, h1, hq⟩, h3⟩
 ·rw [decide_eq_false h] at hb
  subst hb
  rw [if_neg (by simp)] at ha
  subst ha
  refine (tenementlaw15_StreamSends.ack_no w hS (by omega) (by omega) (by omega) (by omega)).mono ?_
  rintro e w' ⟨rfl, h1⟩
  exact ⟨rfl, ⟨_, hS.below h1, Kd.Q_below hQ h1⟩, below_step hB h1⟩
theorem tenementlaw15_StreamSends.row_at (a j t b : Nat) (hb : b < t) (ht : t ≤ j - a) : rd ((tenementlaw15_StreamSends.row a j).take t) (b : Int) = ((a + 1 + b : Nat) : Int) := by
 have hl : b < ((tenementlaw15_StreamSends.row a j).take t).length := by rw [List.length_take, tenementlaw15_StreamSends.row_len]; omega
 unfold rd
 rw [Int.toNat_natCast, List.getD_eq_getElem?_getD, List.getElem?_eq_getElem hl, Option.getD_some, List.getElem_take]
 unfold tenementlaw15_StreamSends.row
 simp only [List.getElem_map, List.getElem_range]
open Classical in
noncomputable def tenementlaw15_StreamSends.f (l0 : List Int) (a1 : Int) : Option Bool := if (∀ x ∈ l0, 0 ≤ x ∧ x ≤ 255) ∧ 0 ≤ a1 ∧ a1 ≤ 255 then some true else none
set_option maxHeartbeats 16000000 in
set_option maxRecDepth 100000 in
theorem tenementlaw15_StreamSends.calls (A0 : Option Addr) (c0 : Nat) (l0 : List Int) (a1 : Int) (r : Bool) (w : World) (hr0 : Kd.C (Kd.int .u8) w A0 l0.length l0) (hc0 : l0.length ≤ c0) (h : tenementlaw15_StreamSends.f l0 a1 = some r) :
  Calls Try.prog 6 #[.slice A0 l0.length c0, .int .u8 a1] w fun e w' => e = .returned (.bool r) ∧ Below w.heap.size w w' := by
 unfold tenementlaw15_StreamSends.f at h
 by_cases hw : (∀ x ∈ l0, 0 ≤ x ∧ x ≤ 255) ∧ 0 ≤ a1 ∧ a1 ≤ 255
 rotate_left
 ·rw [if_neg hw] at h; cases h
 rw [if_pos hw] at h
 obtain rfl := Option.some.inj h
 clear h
 have HR := Aside0.mk hr0
 have HX := Aside0.mk hw.1
 have m0 := hw.2.1
 have m1 := hw.2.2
 obtain ⟨q, hq⟩ : ∃ q : Nat, Int.tmod a1 12 = (q : Int) := ⟨(Int.tmod a1 12).toNat, by rw [Int.toNat_of_nonneg]; rw [Int.tmod_eq_emod_of_nonneg m0]; omega⟩
 have hq12 : q < 12 := by rw [Int.tmod_eq_emod_of_nonneg m0] at hq; omega
 clear hr0 hw m0 m1
 go_enter Try.func6, Try.ntmps6
 go_wp2_with (first
  | (go_at_call 11; (with_reducible refine (tenementlaw15_examples.calls true _ rfl).mono ?_); rintro e w1 ⟨rfl, hb⟩; have HB := Aside0.mk hb; clear hb)
  | (go_at_call 39; (with_reducible refine (tenementlaw15_StreamSends.new_c _).mono ?_); rintro e w2 ⟨rfl, hS, hb⟩; have hg0 : w.heap.size ≤ w1.heap.size := HB.out.size; have HG := Aside0.mk hg0; have HB2 := Aside0.mk (below_step HB.out hb); have HS2 := Aside0.mk hS; clear hS hb hg0; obtain ⟨g, hg⟩ : ∃ g, g = w1.heap.size := ⟨_, rfl⟩; rw [← hg] at HG HS2 ⊢; clear hg))
 go_loopg [7, 8] l0.length (fun kq v7 v8 wr => ∃ (j a : Nat) (v : Value), v8 = .int .i64 j ∧ v7 = .int .i64 a ∧ Aside0 (a ≤ j ∧ j ≤ 30 ∧ j ≤ l0.length) ∧ Aside0 (l0.length - j ≤ kq) ∧ Aside0 (tenementlaw15_StreamSends.St wr g a v) ∧ Aside0 (Kd.Q (Kd.int .i64) 3 wr w.heap.size (fun k => k ≠ g) v (tenementlaw15_StreamSends.row a j)) ∧ Aside0 (Below w.heap.size w wr))
 case atStart => exact ⟨0, 0, _, rfl, rfl, ⟨by omega⟩, ⟨by omega⟩, HS2, ⟨Kd.Q_nil _ _ _ _ _⟩, HB2⟩
 case round =>
  obtain ⟨j, a, v, rfl, rfl, HJ, HK, HS, HQ, HW⟩ := hrel
  by_cases c1 : j < l0.length ∧ j < 30
  rotate_left
  ·obtain ⟨A, c, ev, hc, hC⟩ := Kd.Q_reads HQ.out
   subst ev
   have HC := Aside0.mk hC
   have HM := Aside0.mk (tenementlaw15_StreamSends.row_len a j)
   have z0 : ([] : List Int).length = 0 := rfl
   clear hC
   have fin : ∀ (p : Prop), p → True := fun _ _ => trivial
   have hcut : ((j : Int) < (l0.length : Int)) ∧ ¬ ((j : Int) < 30) ∨ ¬ ((j : Int) < (l0.length : Int)) := by omega
   rcases hcut with ⟨d1, d2⟩ | d1
   all_goals
    try have d1b : decide ((j : Int) < (l0.length : Int)) = true := decide_eq_true d1
    try have d1b : decide ((j : Int) < (l0.length : Int)) = false := decide_eq_false d1
    try have d2b : decide ((j : Int) < 30) = false := decide_eq_false d2
    go_wp2_with (first
     | (go_at_call 42; (with_reducible refine (tenementlaw15_StreamSends.rest_c _ HS.out HC.out hc 0 [] (by omega) rfl ?hm ?m1).mono ?_); (case hm => exact tenementlaw15_StreamSends.clampm (.inl ⟨by decide, rfl⟩)); (case m1 => have := HM.out; have := HJ.out; omega); rintro e w3 ⟨v3, rfl, hR3, hb⟩; obtain ⟨A3, c3, ev, _, _⟩ := Kd.R_reads hR3; subst ev; have HS3 := Aside0.mk (HS.out.below hb); have HC3 := Aside0.mk (Kd.C_below HC.out hb); have HW3 := Aside0.mk (below_step HW.out hb); clear hR3 hb)
     | (go_at_call 42; (with_reducible refine (tenementlaw15_StreamSends.rest_c _ HS3.out HC3.out hc (-1) [] (by omega) rfl ?hm ?m1).mono ?_); (case hm => exact tenementlaw15_StreamSends.clampm (.inl ⟨by decide, rfl⟩)); (case m1 => have := HM.out; have := HJ.out; omega); rintro e w4 ⟨v4, rfl, hR4, hb⟩; obtain ⟨A4, c4, ev, _, _⟩ := Kd.R_reads hR4; subst ev; have HW4 := Aside0.mk (below_step HW3.out hb); clear hR4 hb))
    go_ret
    exact ⟨rfl, HW4.out⟩
  ·obtain ⟨d1, d2⟩ : (j : Int) < (l0.length : Int) ∧ (j : Int) < 30 := by omega
   have d1b : decide ((j : Int) < (l0.length : Int)) = true := decide_eq_true d1
   have d2b : decide ((j : Int) < 30) = true := decide_eq_true d2
   obtain ⟨ad, ea, hx⟩ := Kd.at_int HR.out (j : Int) (by omega) (by omega)
   cases ea
   rw [Int.toNat_natCast] at hx
   have hxr : 0 ≤ rd l0 (j : Int) ∧ rd l0 (j : Int) ≤ 255 := by
    refine HX.out _ ?_
    unfold rd
    rw [Int.toNat_natCast, List.getD_eq_getElem?_getD, List.getElem?_eq_getElem c1.1, Option.getD_some]
    exact List.getElem_mem _
   obtain ⟨x, hxe⟩ : ∃ x, x = rd l0 (j : Int) := ⟨_, rfl⟩
   rw [← hxe] at hx hxr
   obtain ⟨n, hn⟩ : ∃ n : Nat, Int.tmod x 40 = (n : Int) := ⟨(Int.tmod x 40).toNat, by rw [Int.toNat_of_nonneg]; rw [Int.tmod_eq_emod_of_nonneg hxr.1]; omega⟩
   have hn40 : n < 40 := by rw [Int.tmod_eq_emod_of_nonneg hxr.1] at hn; omega
   have HXC := Aside0.mk hx
   have p0 : (0 : Int) ≤ (j : Int) := by omega
   obtain ⟨j1, hj1⟩ : ∃ j1 : Nat, j1 = j + 1 := ⟨_, rfl⟩
   have HJ1 := Aside0.mk hj1
   have HN40 := Aside0.mk hn40
   have HPU := Aside0.mk (tenementlaw15_StreamSends.row_push a j HJ.out.1)
   have HML := Aside0.mk (tenementlaw15_StreamSends.row_len a j)
   rw [show ((j + 1 : Nat) : Int) = (j1 : Int) by omega, ← hj1] at HPU
   clear hxe hxr hx hj1 hn40
   have hcs : (a < n ∧ n ≤ j1) ∨ ¬ (a < n) ∨ (a < n ∧ ¬ n ≤ j1) := by omega
   have HCS : ∃ (b : Bool) (a' : Nat), Aside0 (b = decide (a < n ∧ n ≤ j1)) ∧ Aside0 (a' = if b = true then n else a) ∧ Aside0 (a' ≤ j1) := by
    by_cases h : a < n ∧ n ≤ j1
    ·exact ⟨true, n, ⟨(decide_eq_true h).symm⟩, ⟨rfl⟩, ⟨h.2⟩⟩
    ·exact ⟨false, a, ⟨(decide_eq_false h).symm⟩, ⟨rfl⟩, ⟨by have := HJ.out; have := HJ1.out; omega⟩⟩
   obtain ⟨b, a', HBB, HAA, HAJ⟩ := HCS
   obtain ⟨d, hd⟩ : ∃ d : Nat, d = j1 - a' := ⟨_, rfl⟩
   obtain ⟨t, ht⟩ : ∃ t : Nat, t = min q d := ⟨_, rfl⟩
   have HLL := Aside0.mk (tenementlaw15_StreamSends.row_len a' j1)
   obtain ⟨ys, hys⟩ : ∃ ys, ys = (tenementlaw15_StreamSends.row a' j1).take t := ⟨_, rfl⟩
   have hyl : ys.length = t := by rw [hys, List.length_take, HLL.out]; omega
   have e7 : (a' : Int) + ((tenementlaw15_StreamSends.row a' j1).length : Int) = (j1 : Int) := by rw [HLL.out]; have := HAJ.out; omega
   obtain ⟨a2, ha2⟩ : ∃ a2 : Nat, a2 = a' + 1 := ⟨_, rfl⟩
   have HY := Aside0.mk (show ∀ b : Nat, b < t → rd ys (b : Int) = ((a2 + b : Nat) : Int) by intro b hb; rw [hys, ha2]; exact tenementlaw15_StreamSends.row_at a' j1 t b hb (by omega))
   have HYS := Aside0.mk hys
   have HYL := Aside0.mk hyl
   have HT := Aside0.mk (show t ≤ q ∧ t ≤ d ∧ d = j1 - a' ∧ a2 = a' + 1 ∧ t = min q d by omega)
   have HAR := Aside0.mk (tenementlaw15_StreamSends.ar (n := n) HJ1.out (by have := HJ.out; omega) (by have := HN40.out; omega) HAJ.out hd ht ha2)
   have hdq : ((d : Int) < (q : Int) ∧ t = d) ∨ (¬ ((d : Int) < (q : Int)) ∧ t = q) := by omega
   clear hd ht hys hyl ha2
   have hpp : (b = true ∧ (a : Int) < (n : Int) ∧ (n : Int) ≤ (j1 : Int) ∧ n = a') ∨ (b = false ∧ ¬ ((a : Int) < (n : Int)) ∧ a = a') ∨ (b = false ∧ (a : Int) < (n : Int) ∧ ¬ ((n : Int) ≤ (j1 : Int)) ∧ a = a') := by
    have h1 := HBB.out
    have h2 := HAA.out
    rcases hcs with h | h | h
    ·rw [decide_eq_true h] at h1; subst h1; rw [if_pos rfl] at h2; exact .inl ⟨rfl, by omega, by omega, h2.symm⟩
    ·rw [decide_eq_false (fun q => h q.1)] at h1; subst h1; rw [if_neg (by simp)] at h2; exact .inr (.inl ⟨rfl, by omega, h2.symm⟩)
    ·rw [decide_eq_false (fun q => h.2 q.2)] at h1; subst h1; rw [if_neg (by simp)] at h2; exact .inr (.inr ⟨rfl, by omega, by omega, h2.symm⟩)
   clear hcs
   obtain ⟨e1, e1', e2, e3, e4, e5, e5', -, e8, -, -, -⟩ := HAR.out
   have hn41 := HN40.out
   rcases hpp with ⟨rfl, g1, g2, ga⟩ | ⟨rfl, g1, ga⟩ | ⟨rfl, g1, g2, ga⟩
   all_goals
    subst ga
    try have g1b : decide ((a : Int) < (n : Int)) = true := decide_eq_true g1
    try have g1b : decide ((a : Int) < (n : Int)) = false := decide_eq_false g1
    try have g2b : decide ((n : Int) ≤ (j1 : Int)) = true := decide_eq_true g2
    try have g2b : decide ((n : Int) ≤ (j1 : Int)) = false := decide_eq_false g2
    rcases hdq with ⟨q1, q2⟩ | ⟨q1, q2⟩
    all_goals
    subst q2
    try have q1b : decide ((t : Int) < (q : Int)) = true := decide_eq_true q1
    try have q1b : decide ((d : Int) < (t : Int)) = false := decide_eq_false q1
    go_wp2_with (first
     | (go_at_call 40; (with_reducible refine (tenementlaw15_StreamSends.push_c w _ (j1 : Int) (j1 : Int) ?hr HS.out HQ.out HW.out HG.out (by omega) ?n1 ?m1).mono ?_); (case hr => rw [HML.out]; have := HJ.out; have := HJ1.out; omega); (case n1 => have := HJ.out; omega); (case m1 => rw [HML.out]; have := HJ.out; omega); rintro e w3 ⟨rfl, ⟨v3, hS, hQ⟩, hB⟩; rw [HPU.out] at hQ; have HS3 := Aside0.mk hS; have HQ3 := Aside0.mk hQ; have HW3 := Aside0.mk hB; have hx3 := pw_cell_below hB HXC.out; clear hS hQ hB)
     | (go_at_call 41; (with_reducible refine (tenementlaw15_StreamSends.ack_both w _ HS3.out HQ3.out HW3.out HG.out ?h1 ?h2 ?h3 _ _ HBB.out HAA.out).mono ?_); (case h1 => have := HJ.out; have := HJ1.out; omega); (case h2 => have := HJ.out; have := HJ1.out; omega); (case h3 => have := HN40.out; omega); rintro e w4 ⟨rfl, ⟨v4, hS, hQ⟩, hB⟩; obtain ⟨A4, c4, ev, hc4, hC4⟩ := Kd.Q_reads hQ; subst ev; have HS4 := Aside0.mk hS; have HQ4 := Aside0.mk hQ; have HW4 := Aside0.mk hB; have HC4 := Aside0.mk hC4; clear hS hQ hB hC4)
     | (go_at_call 42; (with_reducible refine (tenementlaw15_StreamSends.rest_c _ HS4.out HC4.out hc4 _ ys ?h1 ?h2 ?h3 ?h4).mono ?_); (case h1 => rw [HYL.out, HLL.out]; have := HT.out; omega); (case h2 => rw [HYL.out]; exact HYS.out); (case h3 => rw [HYL.out, HLL.out]; exact tenementlaw15_StreamSends.clampm (by have := HT.out; omega)); (case h4 => rw [HLL.out]; have := HJ.out; have := HJ1.out; omega); rintro e w5 ⟨v5, rfl, hR5, hb⟩; obtain ⟨A5, c5, ev, _, hC5⟩ := Kd.R_reads hR5; subst ev; rw [HYL.out]; have HL5 := Aside0.mk hC5; rw [HYL.out] at HL5; have HS5 := Aside0.mk (HS4.out.below hb); have HQ5 := Aside0.mk (Kd.Q_below HQ4.out hb); have HW5 := Aside0.mk (below_step HW4.out hb); clear hR5 hC5 hb)
     | (go_at_call 43; (with_reducible refine (tenementlaw15_StreamSends.acked_c _ HS5.out).mono ?_); rintro e w6 ⟨rfl, hb⟩; have HL6 := Aside0.mk (Kd.C_below HL5.out hb); have HS6 := Aside0.mk (HS5.out.below hb); have HQ6 := Aside0.mk (Kd.Q_below HQ5.out hb); have HW6 := Aside0.mk (below_step HW5.out hb); clear hb)
     | (go_at_call 44; (with_reducible refine (tenementlaw15_StreamSends.last_c _ HS6.out (by omega) ?h1 ?h2).mono ?_); (case h1 => have := HAJ.out; have := HJ.out; have := HJ1.out; omega); (case h2 => rw [HLL.out]; have := HJ.out; have := HJ1.out; omega); rintro e w7 ⟨rfl, hb⟩; have HL7 := Aside0.mk (Kd.C_below HL6.out hb); have HS7 := Aside0.mk (HS6.out.below hb); have HQ7 := Aside0.mk (Kd.Q_below HQ6.out hb); have HW7 := Aside0.mk (below_step HW6.out hb); clear hb))
   all_goals
    go_loopg [13] t (fun kq v13 wr => ∃ (b : Nat), v13 = .int .i64 b ∧ wr = w7 ∧ Aside0 (b ≤ t) ∧ Aside0 (t - b ≤ kq))
    case atStart => exact ⟨0, rfl, rfl, ⟨by omega⟩, ⟨by omega⟩⟩
    case round =>
     obtain ⟨b, rfl, rfl, HBT, HBK⟩ := hrel
     by_cases b1 : b < t
     rotate_left
     ·have b1b : decide ((b : Int) < (t : Int)) = false := decide_eq_false (by omega)
      have b1p : ¬ (b : Int) < (t : Int) := by omega
      go_wp2
      go_roundg (l0.length - (j + 1))
      case measure => have := HK.out; omega
      case rel => exact ⟨j1, _, _, rfl, rfl, ⟨by have := HAJ.out; have := HJ1.out; omega⟩, ⟨by have := HJ1.out; omega⟩, HS7, HQ7, HW7⟩
     ·have b1b : decide ((b : Int) < (t : Int)) = true := decide_eq_true (by omega)
      have b1p : (b : Int) < (t : Int) := by omega
      have b0b : decide (0 ≤ (b : Int)) = true := decide_eq_true (by omega)
      obtain ⟨ad5, ea5, hy⟩ := Kd.at_int HL7.out (b : Int) (by omega) b1p
      cases ea5
      rw [Int.toNat_natCast, HY.out b b1] at hy
      obtain ⟨z, hz⟩ : ∃ z : Nat, z = a2 + b := ⟨_, rfl⟩
      rw [← hz] at hy
      have hz2 : (a2 : Int) + (b : Int) = (z : Int) := by omega
      have hz3 : wrap64 ((a2 : Int) + (b : Int)) = (z : Int) := by rw [hz2]; exact tenementlaw15_StreamSends.w64a (by omega) (by have := HT.out; have := HAJ.out; have := HJ1.out; omega)
      have hz4 := tenementlaw15_StreamSends.zz HT.out.2.2.2.1 hz
      clear hz hz2 hz3
      go_wp2
      go_roundg (t - (b + 1))
      case measure => have := HBK.out; omega
      case rel => exact ⟨b + 1, by first | rfl | (congr 1; unfold wrap64; omega), rfl, ⟨by omega⟩, ⟨by omega⟩⟩
end Go.Proofs.Ytoagfdpgnfinhaa.Q

set_option linter.unusedVariables false
namespace Go.Proofs.Ytoagfdpgnfinhaa.Q
open Go.RowKit Go.Proofs.Ytoagfdpgnfinhaa.Q Go.Proofs.YtoagfdpgnfinhaaW.PrintWords Go.Proofs.YtoagfdpgnfinhaaW.PrintLast Go.Proofs.YtoagfdpgnfinhaaW.PrintMore
def tenementlaw15_StreamSends.Pure : Prop := ∀ (x0 : List Int) (x1 : Int), ((∀ x_ ∈ x0, (Lit.int .u8 x_).wf = true) ∧ x0.length * 1 ≤ 140737488351232) → ((Lit.int .u8 x1).wf = true) → tenementlaw15_StreamSends.f x0 x1 = some true
end Go.Proofs.Ytoagfdpgnfinhaa.Q

set_option linter.unusedVariables false
namespace Go.Proofs.Ytoagfdpgnfinhaa.Pure
open Go.RowKit Go.Proofs.Ytoagfdpgnfinhaa.Q Go.Proofs.YtoagfdpgnfinhaaW.PrintWords Go.Proofs.YtoagfdpgnfinhaaW.PrintLast Go.Proofs.YtoagfdpgnfinhaaW.PrintMore
theorem StreamSends : tenementlaw15_StreamSends.Pure := by
 intro l m hl hm
 have hm := u8_of hm
 unfold tenementlaw15_StreamSends.f
 exact if_pos ⟨fun x hx => u8_of (hl.1 x hx), hm.1, hm.2⟩
end Go.Proofs.Ytoagfdpgnfinhaa.Pure
