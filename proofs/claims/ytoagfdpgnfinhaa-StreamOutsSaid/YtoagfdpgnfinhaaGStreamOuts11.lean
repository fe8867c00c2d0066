import Derived.Test.YtoagfdpgnfinhaaGStreamOuts2
import Derived.Test.YtoagfdpgnfinhaaGStreamOuts3
import Derived.Test.YtoagfdpgnfinhaaGStreamOuts4
import Derived.Test.YtoagfdpgnfinhaaGStreamOuts10
import Derived.RegionTactic
import Derived.Test.YtoagfdpgnfinhaaGStreamOuts0
namespace Go.Proofs.Ytoagfdpgnfinhaa.Q
open Go.RowKit Go.Proofs.YtoagfdpgnfinhaaW.PrintWords Go.Proofs.YtoagfdpgnfinhaaW.PrintLast Go.Proofs.YtoagfdpgnfinhaaW.PrintMore
attribute [local go_sem] max2_int min2_int max_two min_two max_three min_three max_four min_four   -- for this text's walks alone
set_option linter.unusedVariables false
set_option linter.unusedSimpArgs false
def tenementlaw15_examples.St (w : World) (g : Nat) (n : Int) (v : Value) : Prop := w.heap[g]? = some (.cells #[.int .u64 n, v] 157 (0, 0))
theorem tenementlaw15_examples.St.below {w w1 : World} {g : Nat} {n : Int} {v : Value} (h : tenementlaw15_examples.St w g n v) (hb : Below w.heap.size w w1) : tenementlaw15_examples.St w1 g n v := blk_below h hb
theorem tenementlaw15_examples.St.alloc {w : World} {g : Nat} {n : Int} {v : Value} (h : tenementlaw15_examples.St w g n v) (o : Obj) : tenementlaw15_examples.St (w.alloc o) g n v := blk_alloc h o
theorem tenementlaw15_examples.info : (Try.prog.info? 9).map (fun i => (i.zero, i.size, i.bytes)) = some (some (.string ⟨#[]⟩), 1, 16) := by kernel_rfl
theorem tenementlaw15_examples.w64 {x : Int} (h0 : 0 ≤ x) (h1 : x ≤ 1000000) : IntKind.u64.wrap x = x := by
 rw [IntKind.wrap_u64]
 omega
set_option maxHeartbeats 4000000 in
theorem tenementlaw15_examples.new_c (w : World) : Calls Try.prog 51 #[] w fun e w' => e = .returned (.pointer (some ⟨w.heap.size, 0, none⟩)) ∧ tenementlaw15_examples.St w' w.heap.size 0 (.slice none 0 0) ∧ Below w.heap.size w w' := by
 go_enter Try.func51, Try.ntmps51
 go_wp2
 go_ret
 exact ⟨rfl, blk_new _ _, below_alloc (Below.refl _ _) _⟩
set_option maxHeartbeats 4000000 in
theorem tenementlaw15_examples.acked_c (w : World) {g : Nat} {n : Int} {v : Value} (hS : tenementlaw15_examples.St w g n v) : Calls Try.prog 55 #[.pointer (some ⟨g, 0, none⟩)] w fun e w' => e = .returned (.int .u64 n) ∧ Below w.heap.size w w' := by
 have h0 : w.cell? ⟨g, 0, none⟩ = some (.int .u64 n) := (blk_cell hS 0).trans rfl
 have h1 : w.cell? ⟨g, 1, none⟩ = some v := (blk_cell hS 1).trans rfl
 have HS := Aside0.mk hS
 clear hS
 go_enter Try.func55, Try.ntmps55
 go_wp2
 try (go_region; go_wp2)
 go_ret
 exact ⟨rfl, by first | exact Below.refl _ _ | exact below_drew1 (Below.refl _ _)⟩
set_option maxHeartbeats 4000000 in
theorem tenementlaw15_examples.last_c (w : World) {g : Nat} {n : Int} {A : Option Addr} {m c : Nat} (hS : tenementlaw15_examples.St w g n (.slice A m c)) (n0 : 0 ≤ n) (n1 : n ≤ 1000) (m1 : m ≤ 1000) : Calls Try.prog 56 #[.pointer (some ⟨g, 0, none⟩)] w fun e w' => e = .returned (.int .u64 (n + (m : Int))) ∧ Below w.heap.size w w' := by
 have h0 : w.cell? ⟨g, 0, none⟩ = some (.int .u64 n) := (blk_cell hS 0).trans rfl
 have h1 : w.cell? ⟨g, 1, none⟩ = some (.slice A m c) := (blk_cell hS 1).trans rfl
 have e1 : IntKind.u64.wrap (m : Int) = m := tenementlaw15_examples.w64 (by omega) (by omega)
 have e2 : IntKind.u64.wrap (n + (m : Int)) = n + (m : Int) := tenementlaw15_examples.w64 (by omega) (by omega)
 clear hS
 go_enter Try.func56, Try.ntmps56
 go_wp2
 go_region
 all_goals go_wp2
 go_ret
 exact ⟨rfl, below_drew1 (Below.refl _ _)⟩
set_option maxHeartbeats 4000000 in
theorem tenementlaw15_examples.push_c (w0 w : World) {g : Nat} {n : Int} {v : Value} {xs : List ByteArray} (x : ByteArray) (hS : tenementlaw15_examples.St w g n v) (hR : Kd.R Kd.string 9 w w0.heap.size (fun k => k ≠ g) v xs) (hB : Below w0.heap.size w0 w) (hg : w0.heap.size ≤ g) (n0 : 0 ≤ n) (n1 : n ≤ 900) (m1 : xs.length ≤ 900) :
  Calls Try.prog 52 #[.pointer (some ⟨g, 0, none⟩), .string x] w fun e w' => e = .returned (.int .u64 (n + ((xs.length : Int) + 1))) ∧ (∃ v', tenementlaw15_examples.St w' g n v' ∧ Kd.R Kd.string 9 w' w0.heap.size (fun k => k ≠ g) v' (xs ++ [x])) ∧ Below w0.heap.size w0 w' := by
 obtain ⟨A, c, rfl, hc, _⟩ := Kd.R_reads hR
 have h0 : w.cell? ⟨g, 0, none⟩ = some (.int .u64 n) := (blk_cell hS 0).trans rfl
 have h1 : w.cell? ⟨g, 1, none⟩ = some (.slice A xs.length c) := (blk_cell hS 1).trans rfl
 have HS := Aside0.mk hS
 have HR := Aside0.mk hR
 have HB := Aside0.mk hB
 have HGL := Aside0.mk (blk_lt hS)
 have hn9 : n ≤ 1000 := by omega
 have hm9 : xs.length + 1 ≤ 1000 := by omega
 have hl9 : (xs ++ [x]).length = xs.length + 1 := by rw [List.length_append, List.length_singleton]
 clear hS hR hB
 go_enter Try.func52, Try.ntmps52
 go_wp2_with (first
  | ((with_reducible refine gate_builtin (b := .append) (xs := #[.tmp 9, .tmp 11]) rfl ?_); at_builtin; refine Kd.R_append Kd.string (w0 := w0) w0.heap.size rfl (.tmp 9) (.tmp 11) 113 9 (.string ⟨#[]⟩) 16 rfl Try.underlying113 tenementlaw15_examples.info rfl (by decide) (by omega) (.slice A xs.length c) xs x [.string x] (fun k => k ≠ g) (fun _ => False) rfl rfl ?aP (fun _ hk => hk.elim) ?aF ?aO ?aB ?aS ?aL ?_; (case aP => rfl); (case aF => exact (fun k hk => by have := HGL.out; omega)); (case aO => exact HR.out); (case aB => exact HB.out); (case aS => exact below_size HB.out); (case aL => omega); intro v1 w1 ho hb hg1 hat; have HO := Aside0.mk ho; have HB1 := Aside0.mk hb; have HS1 := Aside0.mk (blk_grown HS.out hg1 (fun e => HR.out.1 g e.symm rfl)); have h11 : w1.cell? ⟨g, 1, none⟩ = some (.slice A xs.length c) := ((blk_cell HS1.out 1).trans rfl); have h1f := blk_frozen HS1.out 1; obtain ⟨A1, c1, e1, _, _⟩ := Kd.R_reads ho; subst e1; have HS2 : Aside0 (tenementlaw15_examples.St (w1.setCell ⟨g, 1, none⟩ (.slice A1 (xs.length + 1) c1)) g n (.slice A1 (xs.length + 1) c1)) := ⟨blk_put HS1.out 1 (.slice A1 (xs.length + 1) c1) rfl⟩; rw [hl9] at HO; clear ho hb hg1 hat)
  | (go_at_call 56; go_loud ((with_reducible refine (tenementlaw15_examples.last_c _ HS2.out n0 hn9 hm9).mono ?_); rintro e w2 ⟨rfl, hb⟩; have HB2 := Aside0.mk hb; clear hb)))
 go_ret
 refine ⟨?_, ⟨_, blk_below HS2.out HB2.out, Kd.R_below (Kd.R_far HO.out (p := ⟨g, 1, none⟩) (fun k hk => hk) _) HB2.out⟩, below_step (HB1.out.setCell hg _) HB2.out⟩
 rfl
set_option maxHeartbeats 4000000 in
theorem tenementlaw15_examples.rest_c (w : World) {g : Nat} {n : Int} {A : Option Addr} {c : Nat} {xs : List ByteArray} (hS : tenementlaw15_examples.St w g n (.slice A xs.length c)) (hC : Kd.C Kd.string w A xs.length xs) (hc : xs.length ≤ c) (m1 : xs.length ≤ 9) :
  Calls Try.prog 53 #[.pointer (some ⟨g, 0, none⟩), .int .i64 9] w fun e w' => ∃ v, e = .returned v ∧ Kd.R Kd.string 9 w' w.heap.size (fun _ => True) v xs ∧ Below w.heap.size w w' := by
 have h0 : w.cell? ⟨g, 0, none⟩ = some (.int .u64 n) := (blk_cell hS 0).trans rfl
 have h1 : w.cell? ⟨g, 1, none⟩ = some (.slice A xs.length c) := (blk_cell hS 1).trans rfl
 have HC := Aside0.mk hC
 obtain ⟨m, hm⟩ : ∃ m, m = xs.length := ⟨_, rfl⟩
 rw [← hm] at h1 hc m1
 have hmin : (if (m : Int) < 9 then (m : Int) else 9) = (m : Int) := by split <;> omega
 have hmax : (if (m : Int) < 0 then 0 else (m : Int)) = (m : Int) := if_neg (by omega)
 have hm0 : (0 : Int) ≤ (m : Int) := by omega
 have hmc : (m : Int) ≤ (c : Int) := by omega
 rw [← hm] at HC
 clear hS hC hm
 go_enter Try.func53, Try.ntmps53
 go_wp2
 refine start_ (n := 15) (S := fun w' => w'.cell? ⟨g, 0, none⟩ = some (.int .u64 n) ∧ w'.cell? ⟨g, 1, none⟩ = some (.slice A m c)) (ds := []) (mB_ 15 0) (by kernel_rfl) rfl rfl ⟨h0, h1⟩ (fun hHeld => ?_)
 refine Kp_ 0 5 (mB_ 15 1) (by kernel_rfl) ?_
 refine Kp_ 1 6 (mB_ 15 3) (by kernel_rfl) ?_
 refine Kp_ 2 7 (mB_ 15 7) (by kernel_rfl) ?_
 refine Ko_ 3 8 (mB_ 15 15) (by kernel_rfl) hHeld ?_
 refine Kp_ 4 9 (mB_ 15 31) (by kernel_rfl) ?_
 refine Kp_ 5 10 (mB_ 15 63) (by kernel_rfl) ?_
 refine Kp_ 6 11 (mB_ 15 127) (by kernel_rfl) ?_
 refine Kp_ 7 12 (mB_ 15 255) (by kernel_rfl) ?_
 refine Ko_ 8 13 (mB_ 15 511) (by kernel_rfl) hHeld ?_
 refine Kp_ 9 14 (mB_ 15 1023) (by kernel_rfl) ?_
 refine Kp_ 10 15 (mB_ 15 2047) (by kernel_rfl) ?_
 refine Kp_ 11 16 (mB_ 15 4095) (by kernel_rfl) ?_
 refine Kp_ 12 17 (mB_ 15 8191) (by kernel_rfl) ?_
 refine one_ (i := 13) (N := some 18) (mB_ 15 16383) rfl rfl (by kernel_rfl) (by decide) (fun K hK => ?_)
 refine Kd.R_append_rows_step Kd.string (w0 := w) w.heap.size (by rfl) (.const (.slice none 0 0)) (.tmp 17) 113 9 (.string ⟨#[]⟩) 16 rfl Try.underlying113 tenementlaw15_examples.info rfl (by decide) (by omega) (.slice none 0 0) ([] : List ByteArray) xs _ _ _ (fun _ => True) (fun _ => False) rfl rfl ?aO ?aR (fun _ _ h => h) (fun _ h => h.elim) ?aF ?aB ?aS ?aL ?_
 (case aO => exact Kd.R_nil _ _ _ _ _)
 (case aR => exact HC.out)
 (case aF => exact (fun _ _ => trivial))
 (case aB => exact below_drew1 (Below.refl _ _))
 (case aS => exact Nat.le_refl _)
 (case aL => rw [List.length_nil]; omega)
 intro v1 w6 ho hb hg6 hat
 have HO := Aside0.mk ho
 have HB6 := Aside0.mk hb
 clear ho hg6 hat
 refine hK.out _ _ ⟨(hb.cell (World.block_lt_of_cell? _ _ h0)).trans h0, (hb.cell (World.block_lt_of_cell? _ _ h1)).trans h1⟩ (fun hHeld => ?_)
 clear hb hK K
 refine Kn_ 18 ?_
 refine Kp_ 14 4 (mB_ 15 32767) (by kernel_rfl) ?_
 refine done_ (by kernel_rfl) ?_
 try go_wp2
 go_ret
 exact ⟨_, rfl, HO.out, HB6.out⟩
set_option maxHeartbeats 4000000 in
theorem tenementlaw15_examples.ack_no (w : World) {g : Nat} {n x : Int} {A : Option Addr} {m c : Nat} (hS : tenementlaw15_examples.St w g n (.slice A m c)) (n0 : 0 ≤ n) (n1 : n ≤ 1000) (m1 : m ≤ 1000) (hx : n + (m : Int) < x ∨ x ≤ n) :
  Calls Try.prog 54 #[.pointer (some ⟨g, 0, none⟩), .int .u64 x] w fun e w' => e = .returned (.bool false) ∧ Below w.heap.size w w' := by
 have HS := Aside0.mk hS
 clear hS
 by_cases hgt : n + (m : Int) < x
 ·have c1 : decide (n + (m : Int) < x) = true := decide_eq_true hgt
  go_enter Try.func54, Try.ntmps54
  go_wp2_with (first | (go_at_call 56; (with_reducible refine (tenementlaw15_examples.last_c _ HS.out n0 n1 m1).mono ?_); rintro e w2 ⟨rfl, hb⟩; have HB2 := Aside0.mk hb; clear hb))
  go_ret
  exact ⟨rfl, HB2.out⟩
 ·have c1 : decide (n + (m : Int) < x) = false := decide_eq_false hgt
  have hle : x ≤ n := hx.resolve_left hgt
  have c2 : decide (x ≤ n) = true := decide_eq_true hle
  go_enter Try.func54, Try.ntmps54
  go_wp2_with (first | (go_at_call 56; (with_reducible refine (tenementlaw15_examples.last_c _ HS.out n0 n1 m1).mono ?_); rintro e w2 ⟨rfl, hb⟩; have HB2 := Aside0.mk hb; have h0 : w2.cell? ⟨g, 0, none⟩ = some (.int .u64 n) := ((blk_cell (blk_below HS.out hb) 0).trans rfl); clear hb))
  go_ret
  exact ⟨rfl, HB2.out⟩
set_option maxHeartbeats 4000000 in
set_option maxRecDepth 100000 in
theorem tenementlaw15_examples.ack_yes (w0 w : World) {g : Nat} {n x : Int} {A : Option Addr} {m c j : Nat} (hS : tenementlaw15_examples.St w g n (.slice A m c)) (hB : Below w0.heap.size w0 w) (hg : w0.heap.size ≤ g) (n0 : 0 ≤ n) (n1 : n ≤ 1000) (m1 : m ≤ 1000) (hx : x = n + (j : Int)) (hj : 1 ≤ j) (hjm : j ≤ m) (hmc : m ≤ c) :
  Calls Try.prog 54 #[.pointer (some ⟨g, 0, none⟩), .int .u64 x] w fun e w' => e = .returned (.bool true) ∧ tenementlaw15_examples.St w' g x (.slice (if c = j then A else A.map (·.add j)) (m - j) (c - j)) ∧ KeepBut w w' g none ∧ Below w0.heap.size w0 w' := by
 have HS := Aside0.mk hS
 have HB := Aside0.mk hB
 clear hS hB
 have c1 : decide (n + (m : Int) < x) = false := decide_eq_false (by omega)
 have c2 : decide (x ≤ n) = false := decide_eq_false (by omega)
 have e3 : IntKind.u64.wrap (x - n) = (j : Int) := by rw [show x - n = (j : Int) by omega]; exact tenementlaw15_examples.w64 (by omega) (by omega)
 have d1 : (0 : Int) ≤ (j : Int) := by omega
 have d2 : (j : Int) ≤ (m : Int) := by omega
 have d3 : (m : Int) ≤ (c : Int) := by omega
 clear hx
 go_enter Try.func54, Try.ntmps54
 go_wp2_with (first | (go_at_call 56; (with_reducible refine (tenementlaw15_examples.last_c _ HS.out n0 n1 m1).mono ?_); rintro e w2 ⟨rfl, hb⟩; have HB2 := Aside0.mk hb; have HS2 := Aside0.mk (blk_below HS.out hb); obtain ⟨h0, h1, f0, f1⟩ := Ke2_ HS2.out; clear hb))
 go_region
 all_goals go_wp2
 all_goals
  have hsz : w.heap.size ≤ w2.heap.size := HB2.out.size
  go_ret
  refine ⟨rfl, blk_drew (blk_put (blk_put HS2.out 1 _ rfl) 0 _ rfl), ⟨by simpa using hsz, fun i hi hne _ => ?_⟩, below_drew1 (((below_step HB.out HB2.out).setCell hg _).setCell hg _)⟩
  refine (Below.heap_setCell _ _ _ i hne).trans ((Below.heap_setCell _ _ _ i hne).trans (HB2.out.block i hi))
def tenementlaw15_examples.T : ByteArray := ⟨#[2, 2, 172, 2, 100, 117, 81, 48]⟩
theorem tenementlaw15_examples.put : stream_Put.f 100 2 2 300 0 0 0 0 0 [] = some (tenementlaw15_examples.T, true) := by kernel_rfl
theorem tenementlaw15_examples.get : stream_Get.f 100 tenementlaw15_examples.T = some (2, 2, 300, 0, 0, 0, 0, 0, [], 0) := by kernel_rfl
theorem tenementlaw15_examples.right : stream_Right.f 100 0 0 0 0 0 0 0 0 [] = some false := by kernel_rfl
theorem tenementlaw15_examples.ready1 : stream_Ready.f 1 1 0 0 2 1 0 0 1 = some 1 := by kernel_rfl
theorem tenementlaw15_examples.ready2 : stream_Ready.f 2 1 0 0 2 1 0 0 1 = some (-1) := by kernel_rfl
theorem tenementlaw15_examples.ready3 : stream_Ready.f 1 0 0 0 2 1 0 0 1 = some 0 := by kernel_rfl
theorem tenementlaw15_examples.nilC (w : World) : Kd.C k107 w none ([] : List S107).length [] := ⟨rfl, by simp, fun h => absurd h (Nat.lt_irrefl 0)⟩
def tenementlaw15_examples.f : Option Bool := some true
set_option maxHeartbeats 8000000 in
set_option maxRecDepth 100000 in
theorem tenementlaw15_examples.calls (r : Bool) (w : World) (h : tenementlaw15_examples.f = some r) : Calls Try.prog 11 #[] w fun e w' => e = .returned (.bool r) ∧ Below w.heap.size w w' := by
 obtain rfl := Option.some.inj h
 clear h
 go_enter Try.func11, Try.ntmps11
 go_wp2_with (first
  | (go_at_call 51; (with_reducible refine (tenementlaw15_examples.new_c _).mono ?_); rintro e wc ⟨rfl, hS, hb⟩; have HS := Aside0.mk hS; have HB := Aside0.mk hb; have HR := Aside0.mk (Kd.R_nil Kd.string 9 wc w.heap.size (fun k => k ≠ w.heap.size)); clear hS hb)
  | (go_at_call 52; (with_reducible refine (tenementlaw15_examples.push_c w _ _ HS.out HR.out HB.out (Nat.le_refl _) (by decide) (by decide) (by simp)).mono ?_); rintro e wc ⟨rfl, ⟨v, hS, hR⟩, hB⟩; (simp only [List.nil_append, List.cons_append] at hR); obtain ⟨A, c, ev, hc, hC⟩ := Kd.R_reads hR; subst ev; have HS := Aside0.mk hS; have HR := Aside0.mk hR; have HB := Aside0.mk hB; have HC := Aside0.mk hC; clear hS hR hB hC)
  | (go_at_call 53; (with_reducible refine (tenementlaw15_examples.rest_c _ HS.out HC.out hc (by decide)).mono ?_); rintro e wc ⟨v3, rfl, hR3, hb⟩; obtain ⟨A3, c3, ev, _, hC3⟩ := Kd.R_reads hR3; subst ev; have HL := Aside0.mk hC3; have HS := Aside0.mk (HS.out.below hb); have HC := Aside0.mk (Kd.C_below HC.out hb); have HR := Aside0.mk (Kd.R_below HR.out hb); have HB := Aside0.mk (below_step HB.out hb); clear hR3 hC3 hb)
  | (go_at_call 54; (with_reducible refine (tenementlaw15_examples.ack_no _ HS.out (by decide) (by decide) (by decide) ?hx).mono ?_); (case hx => first | decide | (simp; done)); rintro e wc ⟨rfl, hb⟩; have HS := Aside0.mk (HS.out.below hb); have HC := Aside0.mk (Kd.C_below HC.out hb); have HR := Aside0.mk (Kd.R_below HR.out hb); have HB := Aside0.mk (below_step HB.out hb); clear hb)
  | (go_at_call 54; (with_reducible refine (tenementlaw15_examples.ack_yes w _ (j := 1) HS.out HB.out (Nat.le_refl _) (by decide) (by decide) (by decide) ?hx (by decide) (by decide) hc).mono ?_); (case hx => first | decide | (simp; done)); rintro e wc ⟨rfl, hS, hk, hB⟩; have HS := Aside0.mk hS; have HB := Aside0.mk hB; have HR := Aside0.mk (Kd.R_keep HR.out hk (fun k hk => hk)); have HC := Aside0.mk (Kd.C_drop (m := 1) (Kd.R_reads' HR.out).2.2 (by decide) hc); have hc : ([⟨#[98]⟩] : List ByteArray).length ≤ c - 1 := (by have : 2 ≤ c := hc; show 1 ≤ c - 1; omega); clear hS hk hB)
  | (go_at_call 27; refine (stream_Put.calls 100 2 2 300 0 0 0 0 0 none 0 [] _ _ _ (tenementlaw15_examples.nilC _) (by simp) tenementlaw15_examples.put).mono ?_; rintro e wd ⟨rfl, hb⟩; have hbq := below_step (below_alloc (Below.refl wc.heap.size wc) _) hb; have HT := Aside0.mk (blk_below (blk_new wc (Obj.cells #[.int .u64 2, .int .u64 1, .int .u64 0, .int .u64 0, .int .i64 1] 30)) hb); have HS := Aside0.mk (HS.out.below hbq); have HL := Aside0.mk (Kd.C_below HL.out hbq); have HB := Aside0.mk (below_step HB.out hbq); clear hb hbq)
  | (go_at_call 36; refine (stream_Get.calls 100 tenementlaw15_examples.T 2 2 300 0 0 0 0 0 [] 0 _ tenementlaw15_examples.get).mono ?_; rintro e we ⟨v8, rfl, hR8, hb⟩; obtain ⟨A8, c8, e8, _, _⟩ := Kd.R_reads hR8; subst e8; have HT := Aside0.mk (blk_below HT.out hb); have HS := Aside0.mk (HS.out.below hb); have HL := Aside0.mk (Kd.C_below HL.out hb); have HB := Aside0.mk (below_step HB.out hb); obtain ⟨ad, ea, hq⟩ := Kd.at_string HL.out 0 (by decide) (by decide); cases ea; have hq0 : ∀ o, (we.alloc o).cell? (ad.add 0) = some (.string ⟨#[98]⟩) := (fun o => (World.cell?_alloc_lt _ _ _ (World.block_lt_of_cell? _ _ hq)).trans hq); have hq1 : ∀ o, (we.alloc o).cell? ad = some (.string ⟨#[98]⟩) := (fun o => by have ha : ad.add 0 = ad := (by simp [Addr.add]); have h2 := hq0 o; rwa [ha] at h2); clear hR8 hb)
  | (go_at_call 55; (with_reducible refine (tenementlaw15_examples.acked_c _ (HS.out.alloc _)).mono ?_); rintro e wc ⟨rfl, hb⟩; have HM := Aside0.mk (blk_below (blk_new we (Obj.cells #[.int .i64 2, .int .i64 2, .int .u64 300, .int .u64 0, .int .u64 0, .int .u64 0, .int .u64 0, .int .i64 0, .slice A8 0 c8] 69)) hb); have HT := Aside0.mk (blk_below (blk_alloc HT.out _) hb); have HS := Aside0.mk ((HS.out.alloc _).below hb); have HB := Aside0.mk (below_step (below_alloc HB.out _) hb); obtain ⟨t0, t1, t2, t3, t4⟩ := Kc5_ HT.out; obtain ⟨m0, m1, m2, m3, m4, m5, m6, m7, m8⟩ := Kc9_ HM.out; clear hb)
  | (go_at_call 56; (with_reducible refine (tenementlaw15_examples.last_c _ HS.out (by decide) (by decide) (by decide)).mono ?_); rintro e wc ⟨rfl, hb⟩; have HS := Aside0.mk (HS.out.below hb); have HT := Aside0.mk (blk_below HT.out hb); have HM := Aside0.mk (blk_below HM.out hb); have HB := Aside0.mk (below_step HB.out hb); obtain ⟨t0, t1, t2, t3, t4⟩ := Kc5_ HT.out; obtain ⟨m0, m1, m2, m3, m4, m5, m6, m7, m8⟩ := Kc9_ HM.out; clear hb)
  | (go_at_call 30; (with_reducible refine (stream_Ready.calls 1 1 0 0 2 1 0 0 1 _ _ tenementlaw15_examples.ready1).mono ?_); rintro e wc ⟨rfl, hb⟩; have HS := Aside0.mk (HS.out.below hb); have HT := Aside0.mk (blk_below HT.out hb); have HM := Aside0.mk (blk_below HM.out hb); have HB := Aside0.mk (below_step HB.out hb); obtain ⟨t0, t1, t2, t3, t4⟩ := Kc5_ HT.out; obtain ⟨m0, m1, m2, m3, m4, m5, m6, m7, m8⟩ := Kc9_ HM.out; clear hb)
  | (go_at_call 30; (with_reducible refine (stream_Ready.calls 2 1 0 0 2 1 0 0 1 _ _ tenementlaw15_examples.ready2).mono ?_); rintro e wc ⟨rfl, hb⟩; have HS := Aside0.mk (HS.out.below hb); have HT := Aside0.mk (blk_below HT.out hb); have HM := Aside0.mk (blk_below HM.out hb); have HB := Aside0.mk (below_step HB.out hb); obtain ⟨t0, t1, t2, t3, t4⟩ := Kc5_ HT.out; obtain ⟨m0, m1, m2, m3, m4, m5, m6, m7, m8⟩ := Kc9_ HM.out; clear hb)
  | (go_at_call 30; (with_reducible refine (stream_Ready.calls 1 0 0 0 2 1 0 0 1 _ _ tenementlaw15_examples.ready3).mono ?_); rintro e wc ⟨rfl, hb⟩; have HS := Aside0.mk (HS.out.below hb); have HT := Aside0.mk (blk_below HT.out hb); have HM := Aside0.mk (blk_below HM.out hb); have HB := Aside0.mk (below_step HB.out hb); obtain ⟨t0, t1, t2, t3, t4⟩ := Kc5_ HT.out; obtain ⟨m0, m1, m2, m3, m4, m5, m6, m7, m8⟩ := Kc9_ HM.out; clear hb)
  | (go_at_call 33; refine (stream_Right.calls 100 0 0 0 0 0 0 0 0 none 0 [] _ _ (tenementlaw15_examples.nilC _) (by simp) tenementlaw15_examples.right).mono ?_; rintro e wc ⟨rfl, hb⟩; have HB := Aside0.mk (below_step HB.out hb); clear hb))
 go_ret
 exact ⟨rfl, HB.out⟩
end Go.Proofs.Ytoagfdpgnfinhaa.Q
