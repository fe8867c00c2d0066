import Derived.RegionTactic
import Derived.Test.YtoagfdpgnfinhaaGStreamOuts0
import Derived.Test.YtoagfdpgnfinhaaGStreamOuts2
import Derived.Test.YtoagfdpgnfinhaaGStreamOuts1
import Derived.Deep.Slices
import Derived.OpenShut
import Derived.SizedLaws
import Derived.ChangeArms
import Derived.WideShapes
import Derived.ChangeShapes
import Derived.KernelRfl
import Derived.Laws.BitsAllLaws
import Derived.Test.YtoagfdpgnfinhaaGStreamOuts6
import Derived.Test.YtoagfdpgnfinhaaGStreamOuts3
import Derived.Test.YtoagfdpgnfinhaaGStreamOuts4
import Derived.Test.YtoagfdpgnfinhaaGStreamOuts5
set_option linter.unusedVariables false
set_option linter.unusedSimpArgs false
namespace Go.Proofs.Ytoagfdpgnfinhaa.So
open Go Go.RowKit Go.WideShapes Go.Proofs.Ytoagfdpgnfinhaa.Q Go.Proofs.YtoagfdpgnfinhaaW.PrintWords Go.Proofs.YtoagfdpgnfinhaaW.PrintLast Go.Proofs.YtoagfdpgnfinhaaW.PrintMore
def St (w : World) (g : Nat) (n : Int) (v : Value) : Prop := w.heap[g]? = some (.cells #[.int .u64 n, v] 116 (0, 0))
theorem St.below {w w1 : World} {g : Nat} {n : Int} {v : Value} (h : St w g n v) (hb : Below w.heap.size w w1) : St w1 g n v := blk_below h hb
theorem St.alloc {w : World} {g : Nat} {n : Int} {v : Value} (h : St w g n v) (o : Obj) : St (w.alloc o) g n v := blk_alloc h o
theorem info : (Try.prog.info? 33).map (fun i => (i.zero, i.size, i.bytes)) = some (some (.agg #[.int .u64 0, .int .u64 0, .int .u64 0, .int .u64 0, .int .i64 0, .slice none 0 0]), 6, 64) := by kernel_rfl
theorem w64 {x : Int} (h0 : 0 ≤ x) (h1 : x ≤ 1000000) : IntKind.u64.wrap x = x := by
 rw [IntKind.wrap_u64]
 omega
set_option maxHeartbeats 4000000 in
theorem new_c (w : World) : Calls Try.prog 12 #[] w fun e w' => e = .returned (.pointer (some ⟨w.heap.size, 0, none⟩)) ∧ St w' w.heap.size 0 (.slice none 0 0) ∧ Below w.heap.size w w' := by
 go_enter Try.func12, Try.ntmps12
 go_wp2
 go_ret
 exact ⟨rfl, blk_new _ _, below_alloc (Below.refl _ _) _⟩
set_option maxHeartbeats 4000000 in
theorem acked_c (w : World) {g : Nat} {n : Int} {v : Value} (hS : St w g n v) : Calls Try.prog 22 #[.pointer (some ⟨g, 0, none⟩)] w fun e w' => e = .returned (.int .u64 n) ∧ Below w.heap.size w w' := by
 have h0 : w.cell? ⟨g, 0, none⟩ = some (.int .u64 n) := (blk_cell hS 0).trans rfl
 have h1 : w.cell? ⟨g, 1, none⟩ = some v := (blk_cell hS 1).trans rfl
 have HS := Aside0.mk hS
 clear hS
 go_enter Try.func22, Try.ntmps22
 go_wp2
 try (go_region; go_wp2)
 go_ret
 exact ⟨rfl, by first | exact Below.refl _ _ | exact below_drew1 (Below.refl _ _)⟩
set_option maxHeartbeats 4000000 in
theorem last_c (w : World) {g : Nat} {n : Int} {A : Option Addr} {m c : Nat} (hS : St w g n (.slice A m c)) (n0 : 0 ≤ n) (n1 : n ≤ 1000) (m1 : m ≤ 1000) : Calls Try.prog 23 #[.pointer (some ⟨g, 0, none⟩)] w fun e w' => e = .returned (.int .u64 (n + (m : Int))) ∧ Below w.heap.size w w' := by
 have h0 : w.cell? ⟨g, 0, none⟩ = some (.int .u64 n) := (blk_cell hS 0).trans rfl
 have h1 : w.cell? ⟨g, 1, none⟩ = some (.slice A m c) := (blk_cell hS 1).trans rfl
 have e1 : IntKind.u64.wrap (m : Int) = m := w64 (by omega) (by omega)
 have e2 : IntKind.u64.wrap (n + (m : Int)) = n + (m : Int) := w64 (by omega) (by omega)
 clear hS
 go_enter Try.func23, Try.ntmps23
 go_wp2
 go_region
 all_goals go_wp2
 go_ret
 exact ⟨rfl, below_drew1 (Below.refl _ _)⟩
theorem copy_run (ty : TypeId) (W : World) (A : Option Addr) (c : Nat) (ys : List S33) (hC : Kd.C k33 W A ys.length ys) (hl : ys.length ≤ 1000000) :
  ∃ A1 c1 w1, (Builtin.append_ #[46, 46] ty #[.slice none 0 0, .slice A ys.length c]).run Try.prog W = .ok (.slice A1 ys.length c1) w1 ∧ Kd.C k33 w1 A1 ys.length ys ∧ ys.length ≤ c1 ∧ Below W.heap.size W w1 := by
 obtain ⟨i0, hi, hzz⟩ := Option.map_eq_some_iff.1 info
 simp only [Prod.mk.injEq] at hzz
 obtain ⟨hz0, hz1, hz2⟩ := hzz
 cases A with
 | none =>
  have h0 : ys = [] := by
   rcases Nat.eq_zero_or_pos ys.length with h0 | h0
   ·exact List.eq_nil_of_length_eq_zero h0
   ·obtain ⟨ad, h, _⟩ := hC.2.2 h0
    cases h
  subst h0
  refine ⟨none, 0, W, ?_, Kd.C_nil _ _, Nat.le_refl _, Below.refl _ _⟩
  simp [Builtin.append_, run_underlying Try.underlying46, sizeOf, typeInfo, hi, Builtin.lenOf, Builtin.firstCells]
 | some ad =>
  obtain ⟨olds, hrep, hcells⟩ := ReadsRow.inner_ hC
  have hone : ∀ u ∈ olds, u.oneCell' = true := by
   intro u hu
   obtain ⟨q, hq, rfl⟩ := List.mem_iff_getElem.1 hu
   have hql : q / 6 < ys.length := by
    rw [Nat.div_lt_iff_lt_mul (by decide)]
    have e : olds.length = ys.length * 6 := hrep.1
    omega
   have hc := hrep.2 (q / 6) _ (List.getElem?_eq_getElem hql)
   refine k33.K_one hc _ ?_
   rw [List.mem_iff_getElem?]
   refine ⟨q % 6, ?_⟩
   show ((olds.drop (q / 6 * 6)).take 6)[q % 6]? = _
   rw [List.getElem?_take, if_pos (Nat.mod_lt _ (by decide)), List.getElem?_drop, Nat.mul_comm, Nat.div_add_mod, List.getElem?_eq_getElem hq]
  obtain ⟨v1, w1, hrun, hown, hg, -, -⟩ := run_append_own_at (P := Try.prog) W 0 46 ty 33 i0 _ 6 64 Try.underlying46 hi hz0 hz1 hz2 rfl (by decide) (.slice none 0 0) 0 [] (own_nil _ _ _ _) ad ys.length c olds hrep.1 hcells hone (by simp only [maxLen]; omega) (by omega) (Nat.zero_le _)
  have hb : Below W.heap.size W w1 := ⟨hg.os, hg.tape, hg.output, hg.size, fun k hk => hg.block k hk (by simp [Value.ownBlock])⟩
  rw [Nat.zero_add, List.nil_append] at hown
  obtain ⟨A1, c1, rfl, hrow⟩ := own_reads_row hown (hrep.imp_ (fun _ _ hq => k33.K_below hb hq)) rfl
  exact ⟨A1, c1, w1, hrun, hrow, own_le hown, hb⟩
theorem copy_step {ops : Array Oper} {o : Oper} {a : Act} {Q : Exit → Act → World → Prop} {Kc : Act → World → Prop} {W : World} (hw : Region.wanted o (yielded ops a.tmps) = true) (s x : Operand) (ho : o.op = .call { callee := .builtin .append, args := #[s, x], argTypes := #[46, 46] })
  (A : Option Addr) (c : Nat) (ys : List S33) (hs : a.eval s = .slice none 0 0) (hx : a.eval x = .slice A ys.length c) (hC : Kd.C k33 W A ys.length ys) (hl : ys.length ≤ 1000000)
  (h : ∀ A1 c1 w1, Kd.C k33 w1 A1 ys.length ys → ys.length ≤ c1 → Below W.heap.size W w1 → Kc (a.put o.dst (.slice A1 ys.length c1)) w1) :
  if Region.wanted o (yielded ops a.tmps) = true then Oper.wp Try.prog o a W Kc Q else Kc (a.put o.dst undef) W := by
 obtain ⟨A1, c1, w1, hrun, h1, h2, h3⟩ := copy_run o.type W A c ys hC hl
 rw [if_pos hw]
 unfold Oper.wp execOp
 simp only [ho, resolve, invoke, builtin, Sem.run_bind, Sem.run_pure, Result.andThen_ok, List.map_toArray, List.map_cons, List.map_nil, hs, hx, hrun]
 exact h A1 c1 w1 h1 h2 h3
set_option maxHeartbeats 4000000 in
theorem rest_c (w : World) {g : Nat} {n : Int} {A : Option Addr} {c : Nat} {xs : List S33} (hS : St w g n (.slice A xs.length c)) (hC : Kd.C k33 w A xs.length xs) (hc : xs.length ≤ c) (k : Int) (ys : List S33) (hk : ys.length ≤ xs.length) (hy : ys = xs.take ys.length) (hm : (if (if (xs.length : Int) < k then (xs.length : Int) else k) < 0 then 0 else (if (xs.length : Int) < k then (xs.length : Int) else k)) = (ys.length : Int)) (m1 : xs.length ≤ 1000) :
  Calls Try.prog 15 #[.pointer (some ⟨g, 0, none⟩), .int .i64 k] w fun e w' => ∃ A1 c1, e = .returned (.slice A1 ys.length c1) ∧ ys.length ≤ c1 ∧ Kd.C k33 w' A1 ys.length ys ∧ Below w.heap.size w w' := by
 have h0 : w.cell? ⟨g, 0, none⟩ = some (.int .u64 n) := (blk_cell hS 0).trans rfl
 have h1 : w.cell? ⟨g, 1, none⟩ = some (.slice A xs.length c) := (blk_cell hS 1).trans rfl
 have HC := Aside0.mk (show Kd.C k33 w A ys.length ys by rw [hy, List.length_take, Nat.min_eq_left hk]; have := Kd.C_take (m := ys.length) hC hk; rw [List.length_take, Nat.min_eq_left hk] at this; exact this)
 obtain ⟨q, hmin⟩ : ∃ q, (if (xs.length : Int) < k then (xs.length : Int) else k) = q := ⟨_, rfl⟩
 rw [hmin] at hm
 have hm0 : (0 : Int) ≤ (ys.length : Int) := by omega
 have hmc : (ys.length : Int) ≤ (c : Int) := by omega
 have hy9 : ys.length ≤ 1000 := by omega
 clear hS hC hy
 go_enter Try.func15, Try.ntmps15
 go_wp2
 refine start_ (n := 15) (S := fun w' => w'.cell? ⟨g, 0, none⟩ = some (.int .u64 n) ∧ w'.cell? ⟨g, 1, none⟩ = some (.slice A xs.length c)) (ds := []) #[false, false, false, false, false, false, false, false, false, false, false, false, false, false, false] (by kernel_rfl) rfl rfl ⟨h0, h1⟩ (fun hHeld => ?_)
 refine Kp_ 0 5 #[true, false, false, false, false, false, false, false, false, false, false, false, false, false, false] (by kernel_rfl) ?_
 refine Kp_ 1 6 #[true, true, false, false, false, false, false, false, false, false, false, false, false, false, false] (by kernel_rfl) ?_
 refine Kp_ 2 7 #[true, true, true, false, false, false, false, false, false, false, false, false, false, false, false] (by kernel_rfl) ?_
 refine Ko_ 3 8 #[true, true, true, true, false, false, false, false, false, false, false, false, false, false, false] (by kernel_rfl) hHeld ?_
 refine Kp_ 4 9 #[true, true, true, true, true, false, false, false, false, false, false, false, false, false, false] (by kernel_rfl) ?_
 refine Kp_ 5 10 #[true, true, true, true, true, true, false, false, false, false, false, false, false, false, false] (by kernel_rfl) ?_
 refine Kp_ 6 11 #[true, true, true, true, true, true, true, false, false, false, false, false, false, false, false] (by kernel_rfl) ?_
 refine Kp_ 7 12 #[true, true, true, true, true, true, true, true, false, false, false, false, false, false, false] (by kernel_rfl) ?_
 refine Ko_ 8 13 #[true, true, true, true, true, true, true, true, true, false, false, false, false, false, false] (by kernel_rfl) hHeld ?_
 refine Kp_ 9 14 #[true, true, true, true, true, true, true, true, true, true, false, false, false, false, false] (by kernel_rfl) ?_
 refine Kp_ 10 15 #[true, true, true, true, true, true, true, true, true, true, true, false, false, false, false] (by kernel_rfl) ?_
 refine Kp_ 11 16 #[true, true, true, true, true, true, true, true, true, true, true, true, false, false, false] (by kernel_rfl) ?_
 refine Kp_ 12 17 #[true, true, true, true, true, true, true, true, true, true, true, true, true, false, false] (by kernel_rfl) ?_
 refine one_ (i := 13) (N := some 18) #[true, true, true, true, true, true, true, true, true, true, true, true, true, true, false] rfl rfl (by kernel_rfl) (by decide) (fun K hK => ?_)
 refine copy_step (by rfl) (.const (.slice none 0 0)) (.tmp 17) rfl A c ys rfl rfl ?fC ?fl ?_
 (case fC => exact HC.out)
 (case fl => omega)
 intro A1 c1 w6 h1_ h2_ hb_
 have HO := Aside0.mk h1_
 have HLO := Aside0.mk h2_
 have hb : Below w.heap.size w w6 := below_step (below_drew1 (Below.refl _ _)) hb_
 have HB6 := Aside0.mk hb
 clear h1_ h2_ hb_
 refine hK.out _ _ ⟨(hb.cell (World.block_lt_of_cell? _ _ h0)).trans h0, (hb.cell (World.block_lt_of_cell? _ _ h1)).trans h1⟩ (fun hHeld => ?_)
 clear hb hK K
 refine Kn_ 18 ?_
 refine Kp_ 14 4 #[true, true, true, true, true, true, true, true, true, true, true, true, true, true, true] (by kernel_rfl) ?_
 refine done_ (by kernel_rfl) ?_
 try go_wp2
 go_ret
 exact ⟨A1, c1, rfl, HLO.out, HO.out, HB6.out⟩
set_option maxHeartbeats 4000000 in
theorem ack_no (w : World) {g : Nat} {n x : Int} {A : Option Addr} {m c : Nat} (hS : St w g n (.slice A m c)) (n0 : 0 ≤ n) (n1 : n ≤ 1000) (m1 : m ≤ 1000) (hx : n + (m : Int) < x ∨ x ≤ n) :
  Calls Try.prog 13 #[.pointer (some ⟨g, 0, none⟩), .int .u64 x] w fun e w' => e = .returned (.bool false) ∧ Below w.heap.size w w' := by
 have HS := Aside0.mk hS
 clear hS
 by_cases hgt : n + (m : Int) < x
 ·have c1 : decide (n + (m : Int) < x) = true := decide_eq_true hgt
  go_enter Try.func13, Try.ntmps13
  go_wp2_with (first | (go_at_call 23; (with_reducible refine (last_c _ HS.out n0 n1 m1).mono ?_); rintro e w2 ⟨rfl, hb⟩; have HB2 := Aside0.mk hb; clear hb))
  go_ret
  exact ⟨rfl, HB2.out⟩
 ·have c1 : decide (n + (m : Int) < x) = false := decide_eq_false hgt
  have hle : x ≤ n := hx.resolve_left hgt
  have c2 : decide (x ≤ n) = true := decide_eq_true hle
  go_enter Try.func13, Try.ntmps13
  go_wp2_with (first | (go_at_call 23; (with_reducible refine (last_c _ HS.out n0 n1 m1).mono ?_); rintro e w2 ⟨rfl, hb⟩; have HB2 := Aside0.mk hb; have h0 : w2.cell? ⟨g, 0, none⟩ = some (.int .u64 n) := ((blk_cell (blk_below HS.out hb) 0).trans rfl); clear hb))
  go_ret
  exact ⟨rfl, HB2.out⟩
set_option maxHeartbeats 4000000 in
set_option maxRecDepth 100000 in
theorem ack_yes (w0 w : World) {g : Nat} {n x : Int} {A : Option Addr} {m c j : Nat} (hS : St w g n (.slice A m c)) (hB : Below w0.heap.size w0 w) (hg : w0.heap.size ≤ g) (n0 : 0 ≤ n) (n1 : n ≤ 1000) (m1 : m ≤ 1000) (hx : x = n + (j : Int)) (hj : 1 ≤ j) (hjm : j ≤ m) (hmc : m ≤ c) :
  Calls Try.prog 13 #[.pointer (some ⟨g, 0, none⟩), .int .u64 x] w fun e w' => e = .returned (.bool true) ∧ St w' g x (.slice (if c = j then A else A.map (·.add (j * 6))) (m - j) (c - j)) ∧ KeepBut w w' g none ∧ Below w0.heap.size w0 w' := by
 have HS := Aside0.mk hS
 have HB := Aside0.mk hB
 clear hS hB
 have c1 : decide (n + (m : Int) < x) = false := decide_eq_false (by omega)
 have c2 : decide (x ≤ n) = false := decide_eq_false (by omega)
 have e3 : IntKind.u64.wrap (x - n) = (j : Int) := by rw [show x - n = (j : Int) by omega]; exact w64 (by omega) (by omega)
 have d1 : (0 : Int) ≤ (j : Int) := by omega
 have d2 : (j : Int) ≤ (m : Int) := by omega
 have d3 : (m : Int) ≤ (c : Int) := by omega
 clear hx
 go_enter Try.func13, Try.ntmps13
 go_wp2_with (first | (go_at_call 23; (with_reducible refine (last_c _ HS.out n0 n1 m1).mono ?_); rintro e w2 ⟨rfl, hb⟩; have HB2 := Aside0.mk hb; have HS2 := Aside0.mk (blk_below HS.out hb); obtain ⟨h0, h1, f0, f1⟩ := Ke2_ HS2.out; clear hb))
 go_region
 all_goals go_wp2
 all_goals
  have hsz : w.heap.size ≤ w2.heap.size := HB2.out.size
  go_ret
  refine ⟨rfl, blk_drew (blk_put (blk_put HS2.out 1 _ rfl) 0 _ rfl), ⟨by simpa using hsz, fun i hi hne _ => ?_⟩, below_drew1 (((below_step HB.out HB2.out).setCell hg _).setCell hg _)⟩
  refine (Below.heap_setCell _ _ _ i hne).trans ((Below.heap_setCell _ _ _ i hne).trans (HB2.out.block i hi))
theorem push_step {ops : Array Oper} {o : Oper} {a : Act} {Q : Exit → Act → World → Prop} {Kc : Act → World → Prop} {w0 W : World} (hw : Region.wanted o (yielded ops a.tmps) = true) (s x : Operand) (ho : o.op = .call { callee := .builtin .append, args := #[s, x], argTypes := #[46, 46] })
  (v : Value) (xs : List S33) (p : S33) (cs : List Value) (ok okp : Nat → Prop) (hs : a.eval s = v) (hx : a.eval x = .slice (some ⟨W.heap.size, 0, none⟩) 1 1) (hp : k33.M W w0.heap.size okp p cs) (hokp : ∀ k, okp k → ok k ∧ some k ≠ v.ownBlock) (hfresh : ∀ k, W.heap.size ≤ k → ok k)
  (HO : Kd.Q k33 33 W w0.heap.size ok v xs) (HB : Below w0.heap.size w0 W) (hbase : w0.heap.size ≤ W.heap.size) (hl : xs.length ≤ 1000000)
  (h : ∀ v1 w1, Kd.Q k33 33 w1 w0.heap.size ok v1 (xs ++ [p]) → Below w0.heap.size w0 w1 → W.grownBy w1 v.ownBlock → (v1.ownBlock = v.ownBlock ∨ ∃ b, v1.ownBlock = some b ∧ W.heap.size ≤ b) → Kc (a.put o.dst v1) w1) :
  if Region.wanted o (yielded ops a.tmps) = true then Oper.wp Try.prog o a (W.alloc (.cells cs.toArray 33)) Kc Q else Kc (a.put o.dst undef) (W.alloc (.cells cs.toArray 33)) := by
 obtain ⟨v1, w1, hrun, h1, h2, h3, h4⟩ := Kd.Q_run (P := Try.prog) k33 w0.heap.size 46 o.type 33 (.agg #[.int .u64 0, .int .u64 0, .int .u64 0, .int .u64 0, .int .i64 0, .slice none 0 0]) 64 Try.underlying46 info rfl (by decide) (by omega) v xs p cs ok okp hp hokp hfresh HO HB hbase (by omega)
 rw [if_pos hw]
 unfold Oper.wp execOp
 simp only [ho, resolve, invoke, builtin, Sem.run_bind, Sem.run_pure, Result.andThen_ok, List.map_toArray, List.map_cons, List.map_nil, hs, hx, hrun]
 exact h v1 w1 h1 h2 h3 h4
set_option maxHeartbeats 8000000 in
set_option maxRecDepth 100000 in
theorem push_c (w0 w : World) {g : Nat} {n : Int} {v : Value} {xs : List S33} (x0 x1 x2 x3 x4 : Int) (ws : List S107) (vt : Value) (r : Int) (hr : n + ((xs.length : Int) + 1) = r) (ok okp : Nat → Prop) (hok : ∀ k, ok k → k ≠ g) (hfr : ∀ k, w.heap.size ≤ k → ok k) (hokp : ∀ k, okp k → ok k ∧ some k ≠ v.ownBlock)
  (hS : St w g n v) (hQ : Kd.Q k33 33 w w0.heap.size ok v xs) (hT : Kd.R k107 107 w w0.heap.size okp vt ws) (hB : Below w0.heap.size w0 w) (hg : w0.heap.size ≤ g) (n0 : 0 ≤ n) (n1 : n ≤ 900) (m1 : xs.length ≤ 900) :
  Calls Try.prog 20 #[.pointer (some ⟨g, 0, none⟩), .agg #[.int .u64 x0, .int .u64 x1, .int .u64 x2, .int .u64 x3, .int .i64 x4, vt]] w fun e w' => e = .returned (.int .u64 r) ∧ (∃ v', St w' g n v' ∧ Kd.Q k33 33 w' w0.heap.size ok v' (xs ++ [⟨⟨⟨x0, x1, x2, x3⟩, x4⟩, ws⟩]) ∧ (v'.ownBlock = v.ownBlock ∨ ∃ b, v'.ownBlock = some b ∧ w.heap.size ≤ b) ∧ ∀ k, k < w.heap.size → k ≠ g → some k ≠ v.ownBlock → w'.heap[k]? = w.heap[k]?) ∧ Below w0.heap.size w0 w' := by
 obtain ⟨A, c, hv, hc, _⟩ := Kd.Q_reads hQ
 subst hv
 obtain ⟨v, ev⟩ : ∃ v_ : Value, v_ = .slice A xs.length c := ⟨_, rfl⟩
 have HS := Aside0.mk hS
 have HQ := Aside0.mk hQ
 have HT := Aside0.mk hT
 have HB := Aside0.mk hB
 have hn9 : n ≤ 1000 := by omega
 have hm9 : xs.length + 1 ≤ 1000 := by omega
 have hlen : (xs ++ [(⟨⟨⟨x0, x1, x2, x3⟩, x4⟩, ws⟩ : S33)]).length = xs.length + 1 := by rw [List.length_append, List.length_singleton]
 clear hS hQ hT hB
 subst hr
 go_enter Try.func20, Try.ntmps20
 go_wp2_with (first
  | ((with_reducible refine gate_dst (N := 3) rfl ?_); refine Ka_ 3 #[.int .u64 x0, .int .u64 x1, .int .u64 x2, .int .u64 x3, .int .i64 x4, vt] 33 ?_; intro g3 hg3 w2 hbox hb; have BK := Aside0.mk hbox; have HB2 := Aside0.mk hb; have HG3 := Aside0.mk hg3; clear hb hbox hg3))
 have hbx : Below w.heap.size w w2.drew := below_drew1 HB2.out
 have HSx : Aside0 (St w2.drew g n (.slice A xs.length c)) := ⟨blk_drew (HS.out.below HB2.out)⟩
 have BKx := Aside0.mk (blk_drew BK.out)
 have HQx := Aside0.mk (Kd.Q_below HQ.out hbx)
 have HTx := Aside0.mk (Kd.R_below HT.out hbx)
 have HBx := Aside0.mk (below_step HB.out hbx)
 have HWx := Aside0.mk hbx
 have NB : Aside0 (some g3 ≠ (Value.slice A xs.length c).ownBlock) := ⟨fun e => by
  obtain ⟨_, inner, hown, _⟩ := HQ.out
  have h1 := q_lt hown g3 e.symm
  have h2 := HG3.out
  omega⟩
 clear hbx
 refine start_ (n := 11) (S := fun w' => w'.cell? ⟨g, 1, none⟩ = some (.slice A xs.length c) ∧ w'.cell? ⟨g3, 0, none⟩ = some (.int .u64 x0) ∧ w'.cell? ⟨g3, 1, none⟩ = some (.int .u64 x1) ∧ w'.cell? ⟨g3, 2, none⟩ = some (.int .u64 x2) ∧ w'.cell? ⟨g3, 3, none⟩ = some (.int .u64 x3) ∧ w'.cell? ⟨g3, 4, none⟩ = some (.int .i64 x4) ∧ w'.cell? ⟨g3, 5, none⟩ = some (vt)) (ds := [10]) #[false, false, false, false, false, false, false, false, false, false, false] (by kernel_rfl) rfl rfl ⟨(blk_cell HSx.out 1).trans rfl, (blk_cell BKx.out 0).trans rfl, (blk_cell BKx.out 1).trans rfl, (blk_cell BKx.out 2).trans rfl, (blk_cell BKx.out 3).trans rfl, (blk_cell BKx.out 4).trans rfl, (blk_cell BKx.out 5).trans rfl⟩ (fun hHeld => ?_)
 generalize w2.drew = wx at HSx BKx HQx HTx HBx HWx hHeld ⊢
 refine Kp_ 0 5 #[true, false, false, false, false, false, false, false, false, false, false] (by kernel_rfl) ?_
 refine Kp_ 1 6 #[true, true, false, false, false, false, false, false, false, false, false] (by kernel_rfl) ?_
 refine Kp_ 2 7 #[true, true, true, false, false, false, false, false, false, false, false] (by kernel_rfl) ?_
 refine Kp_ 3 8 #[true, true, true, true, false, false, false, false, false, false, false] (by kernel_rfl) ?_
 refine Ko_ 4 9 #[true, true, true, true, true, false, false, false, false, false, false] (by kernel_rfl) hHeld ?_
 refine Ko_ 5 10 #[true, true, true, true, true, true, false, false, false, false, false] (by kernel_rfl) hHeld ?_
 refine one_ (i := 6) (N := some 11) #[true, true, true, true, true, true, true, false, false, false, false] rfl rfl (by kernel_rfl) (by decide) (fun K hK => ?_)
 refine value_ (w1 := ?_) (v := ?_) (by rfl) rfl ?_ ?_
 rotate_left 2
 ·go_simp
  constructor
  ·rfl
  ·rfl
 refine hK.out _ _ ⟨(blk_cell (blk_alloc HSx.out _) 1).trans rfl, (blk_cell (blk_alloc BKx.out _) 0).trans rfl, (blk_cell (blk_alloc BKx.out _) 1).trans rfl, (blk_cell (blk_alloc BKx.out _) 2).trans rfl, (blk_cell (blk_alloc BKx.out _) 3).trans rfl, (blk_cell (blk_alloc BKx.out _) 4).trans rfl, (blk_cell (blk_alloc BKx.out _) 5).trans rfl⟩ (fun hHeld => ?_)
 clear hK K
 refine Kn_ 11 ?_
 refine one_ (i := 7) (N := some 12) #[true, true, true, true, true, true, true, true, false, false, false] rfl rfl (by kernel_rfl) (by decide) (fun K hK => ?_)
 refine push_step (w0 := w0) (W := wx) (by rfl) (.tmp 9) (.tmp 11) rfl (.slice A xs.length c) xs (⟨⟨⟨x0, x1, x2, x3⟩, x4⟩, ws⟩ : S33) [.int .u64 x0, .int .u64 x1, .int .u64 x2, .int .u64 x3, .int .i64 x4, vt] ok okp rfl rfl (k33_mkM wx _ _ (⟨⟨⟨x0, x1, x2, x3⟩, x4⟩, ws⟩ : S33) HTx.out) hokp (fun k hk => hfr k (Nat.le_trans HWx.out.size hk)) HQx.out HBx.out (below_size HBx.out) (by omega) ?_
 intro v1 w1 ho hb hg hat
 obtain ⟨A1, c1, e1, -, -⟩ := Kd.Q_reads ho
 rw [hlen] at e1
 subst e1
 have HO := Aside0.mk ho
 have HB1 := Aside0.mk hb
 have HS1 := Aside0.mk (blk_grown HSx.out hg (fun e => hok g (HQx.out.1 g e.symm) rfl))
 have BK1 := Aside0.mk (blk_grown BKx.out hg NB.out)
 have HG1 := Aside0.mk hg
 have HAT := Aside0.mk hat
 clear ho hb hg hat
 refine hK.out _ _ ⟨(blk_cell HS1.out 1).trans rfl, (blk_cell BK1.out 0).trans rfl, (blk_cell BK1.out 1).trans rfl, (blk_cell BK1.out 2).trans rfl, (blk_cell BK1.out 3).trans rfl, (blk_cell BK1.out 4).trans rfl, (blk_cell BK1.out 5).trans rfl⟩ (fun hHeld => ?_)
 clear hK K
 refine Kn_ 12 ?_
 refine Kp_ 8 13 #[true, true, true, true, true, true, true, true, true, false, false] (by kernel_rfl) ?_
 refine Kp_ 9 14 #[true, true, true, true, true, true, true, true, true, true, false] (by kernel_rfl) ?_
 obtain ⟨h0, h1, f0, f1⟩ := Ke2_ HS1.out
 refine last_ (i := 10) (N := none) #[true, true, true, true, true, true, true, true, true, true, true] rfl rfl (by kernel_rfl) (by decide) (fun K hK => ?_)
 refine skip_ (w1 := ?_) (by rfl) rfl ?_ ?_
 rotate_left
 ·go_simp
  rfl
 refine hK.out _ _ ?_
 clear hK K
 refine done_ (by kernel_rfl) ?_
 clear h0 h1 f0 f1 hHeld
 have HS2 : Aside0 (St (w1.setCell ⟨g, 1, none⟩ (.slice A1 (xs.length + 1) c1)) g n (.slice A1 (xs.length + 1) c1)) := ⟨blk_put (cs := #[.int .u64 n, .slice A xs.length c]) HS1.out 1 _ rfl⟩
 go_wp2_with (first
  | (go_at_call 23; (with_reducible refine (last_c _ HS2.out n0 hn9 hm9).mono ?_); rintro e w4 ⟨rfl, hb⟩; have HB4 := Aside0.mk hb; clear hb))
 go_ret
 have hse : w1.heap.size = (w1.setCell ⟨g, 1, none⟩ (.slice A1 (xs.length + 1) c1)).heap.size := (World.size_setCell _ _ _).symm
 refine ⟨by first | rfl | simp, ⟨_, HS2.out.below HB4.out, Kd.Q_below (Kd.Q_far HO.out (p := ⟨g, 1, none⟩) (fun k hk => hok k hk) _) HB4.out, ?_, fun k hk hkg hkv => ?_⟩, below_step (HB1.out.setCell hg _) HB4.out⟩
 ·rcases HAT.out with h | ⟨b, h1, h2⟩
  ·exact .inl h
  ·exact .inr ⟨b, h1, Nat.le_trans HWx.out.size h2⟩
 ·have e1 := HWx.out.block k hk
  have e2 := HG1.out.block k (Nat.lt_of_lt_of_le hk HWx.out.size) hkv
  have e3 := Below.heap_setCell w1 ⟨g, 1, none⟩ (.slice A1 (xs.length + 1) c1) k hkg
  have e4 := HB4.out.block k (by rw [← hse]; exact Nat.lt_of_lt_of_le hk (Nat.le_trans HWx.out.size HG1.out.size))
  rw [e4, e3, e2, e1]
def StX (w : World) (g : Nat) (v : Value) (n : Int) : Prop := w.heap[g]? = some (.cells #[v, .int .u64 n] 37 (0, 0))
theorem infoX : (Try.prog.info? 55).map (fun i => (i.zero, i.size, i.bytes)) = some (some (.agg #[.int .u64 0, .int .u64 0, .int .u64 0, .int .u64 0, .int .i64 0, .slice none 0 0]), 6, 64) := by kernel_rfl
theorem below_none {W w1 : World} (hg : W.grownBy w1 none) : Below W.heap.size W w1 := ⟨hg.os, hg.tape, hg.output, hg.size, fun k hk => hg.block k hk (by simp)⟩
theorem own_new {W : World} {v1 : Value} (hat : v1.ownBlock = (Value.slice none 0 0).ownBlock ∨ ∃ b, v1.ownBlock = some b ∧ W.heap.size ≤ b) : ∀ k, k < W.heap.size → some k ≠ v1.ownBlock := by
 intro k hk e
 rcases hat with h | ⟨b, h, hle⟩
 ·rw [h] at e
  simp [Value.ownBlock] at e
 ·rw [h] at e
  injection e with e
  omega
theorem lit_row (base : Nat) (okp : Nat → Prop) (W wx : World) (hw : Below wx.heap.size wx W) (t : S55) (vt : Value) (hT : Kd.R k117 117 wx base okp vt t.f1) (hb : base ≤ W.heap.size) :
  ReadsRow (k55.M (W.alloc (.cells #[.int .u64 t.f0.f0.f0, .int .u64 t.f0.f0.f1, .int .u64 t.f0.f0.f2, .int .u64 t.f0.f0.f3, .int .i64 t.f0.f1, vt] 55)) base (fun k => okp k ∧ k < wx.heap.size)) 6 (W.alloc (.cells #[.int .u64 t.f0.f0.f0, .int .u64 t.f0.f0.f1, .int .u64 t.f0.f0.f2, .int .u64 t.f0.f0.f3, .int .i64 t.f0.f1, vt] 55)) (some ⟨W.heap.size, 0, none⟩) 1 [t] := by
 have hm := k55.M_bound (k55_mkM wx base okp t hT)
 have hba := below_step hw (below_alloc (Below.refl W.heap.size W) (.cells #[.int .u64 t.f0.f0.f0, .int .u64 t.f0.f0.f1, .int .u64 t.f0.f0.f2, .int .u64 t.f0.f0.f3, .int .i64 t.f0.f1, vt] 55))
 have h2 := k55.M_mono (ok' := fun k => okp k ∧ k < wx.heap.size) (fun k hk => ⟨hk.1, hk.2.2.1⟩) (Kd.M_below hm hba)
 have hrep := (Reps.none (k55.M (W.alloc (.cells #[.int .u64 t.f0.f0.f0, .int .u64 t.f0.f0.f1, .int .u64 t.f0.f0.f2, .int .u64 t.f0.f0.f3, .int .i64 t.f0.f1, vt] 55)) base (fun k => okp k ∧ k < wx.heap.size)) 6).snoc h2 rfl
 obtain ⟨A1, c1, he, -, hrow⟩ := OwnRow.reads (OwnRow.lit (e := 55) W base (ps := [t]) hrep hb (by show 1 ≤ _; omega))
 injection he with e1 e2 e3
 subst e1
 exact hrow
set_option maxHeartbeats 8000000 in
set_option maxRecDepth 100000 in
theorem xpush_c (w0 w : World) {g : Nat} {n : Int} {v : Value} {xs : List S55} (x0 x1 x2 x3 x4 : Int) (ws : List S117) (vt : Value) (r : Int) (hr : (xs.length : Int) + 1 = r) (ok okp : Nat → Prop) (hok : ∀ k, ok k → k ≠ g) (hfr : ∀ k, w.heap.size ≤ k → ok k) (hokp : ∀ k, okp k → ok k)
  (hS : StX w g v n) (hQ : Kd.R k55 55 w w0.heap.size ok v xs) (hT : Kd.R k117 117 w w0.heap.size okp vt ws) (hB : Below w0.heap.size w0 w) (hg : w0.heap.size ≤ g) (m1 : xs.length ≤ 900) :
  Calls Try.prog 21 #[.pointer (some ⟨g, 0, none⟩), .agg #[.int .u64 x0, .int .u64 x1, .int .u64 x2, .int .u64 x3, .int .i64 x4, vt]] w fun e w' => e = .returned (.int .u64 r) ∧ (∃ v', StX w' g v' n ∧ Kd.R k55 55 w' w0.heap.size ok v' (xs ++ [⟨⟨⟨x0, x1, x2, x3⟩, x4⟩, ws⟩]) ∧ ∀ k, k < w.heap.size → k ≠ g → w'.heap[k]? = w.heap[k]?) ∧ Below w0.heap.size w0 w' := by
 obtain ⟨A, c, hv⟩ := Kd.R_slice hQ
 subst hv
 have HS := Aside0.mk hS
 have HQ := Aside0.mk hQ
 have HT := Aside0.mk hT
 have HB := Aside0.mk hB
 have hlen : (xs ++ [(⟨⟨⟨x0, x1, x2, x3⟩, x4⟩, ws⟩ : S55)]).length = xs.length + 1 := by rw [List.length_append, List.length_singleton]
 have e9 : IntKind.u64.wrap ((xs.length : Int) + 1) = (xs.length : Int) + 1 := by rw [IntKind.wrap_u64]; omega
 have e8 : IntKind.u64.wrap ((xs.length + 1 : Nat) : Int) = (xs.length : Int) + 1 := by rw [IntKind.wrap_u64]; omega
 clear hS hQ hT hB
 subst hr
 go_enter Try.func21, Try.ntmps21
 go_wp2_with (first
  | ((with_reducible refine gate_dst (N := 3) rfl ?_); refine Ka_ 3 #[.int .u64 x0, .int .u64 x1, .int .u64 x2, .int .u64 x3, .int .i64 x4, vt] 55 ?_; intro g3 hg3 w2 hbox hb; have BK := Aside0.mk hbox; have HB2 := Aside0.mk hb; clear hb hbox hg3))
 have hbx : Below w.heap.size w w2.drew := below_drew1 HB2.out
 have HSx : Aside0 (StX w2.drew g (.slice A xs.length c) n) := ⟨blk_drew (blk_below HS.out HB2.out)⟩
 have BKx := Aside0.mk (blk_drew BK.out)
 have HQx := Aside0.mk (Kd.R_below HQ.out hbx)
 have HTx := Aside0.mk (Kd.R_below HT.out hbx)
 have HBx := Aside0.mk (below_step HB.out hbx)
 have HWW := Aside0.mk hbx
 have HWX : Aside0 (w.heap.size ≤ w2.drew.heap.size) := ⟨hbx.size⟩
 clear hbx
 refine start_ (n := 12) (S := fun w' => w'.cell? ⟨g, 0, none⟩ = some (.slice A xs.length c) ∧ w'.cell? ⟨g3, 0, none⟩ = some (.int .u64 x0) ∧ w'.cell? ⟨g3, 1, none⟩ = some (.int .u64 x1) ∧ w'.cell? ⟨g3, 2, none⟩ = some (.int .u64 x2) ∧ w'.cell? ⟨g3, 3, none⟩ = some (.int .u64 x3) ∧ w'.cell? ⟨g3, 4, none⟩ = some (.int .i64 x4) ∧ w'.cell? ⟨g3, 5, none⟩ = some (vt)) (ds := [11]) #[false, false, false, false, false, false, false, false, false, false, false, false] (by kernel_rfl) rfl rfl ⟨(blk_cell HSx.out 0).trans rfl, (blk_cell BKx.out 0).trans rfl, (blk_cell BKx.out 1).trans rfl, (blk_cell BKx.out 2).trans rfl, (blk_cell BKx.out 3).trans rfl, (blk_cell BKx.out 4).trans rfl, (blk_cell BKx.out 5).trans rfl⟩ (fun hHeld => ?_)
 generalize w2.drew = wx at HSx BKx HQx HTx HBx HWW HWX hHeld ⊢
 refine Kp_ 0 5 #[true, false, false, false, false, false, false, false, false, false, false, false] (by kernel_rfl) ?_
 refine Kp_ 1 6 #[true, true, false, false, false, false, false, false, false, false, false, false] (by kernel_rfl) ?_
 refine Kp_ 2 7 #[true, true, true, false, false, false, false, false, false, false, false, false] (by kernel_rfl) ?_
 refine Kp_ 3 8 #[true, true, true, true, false, false, false, false, false, false, false, false] (by kernel_rfl) ?_
 refine Ko_ 4 9 #[true, true, true, true, true, false, false, false, false, false, false, false] (by kernel_rfl) hHeld ?_
 refine Ko_ 6 11 #[true, true, true, true, true, false, true, false, false, false, false, false] (by kernel_rfl) hHeld ?_
 refine two_ (i := 5) (j := 7) (Ni := some 10) (Nj := some 12) #[true, true, true, true, true, true, true, false, false, false, false, false] #[true, true, true, true, true, false, true, true, false, false, false, false] rfl rfl rfl rfl (by kernel_rfl) (by decide) (by decide) (fun K hK => ?_) (fun K hK => ?_)
 all_goals first
  | (
   refine Kd.R_append_rows_step k55 (w0 := w0) w0.heap.size (by rfl) (.const (.slice none 0 0)) (.tmp 9) 35 55 (.agg #[.int .u64 0, .int .u64 0, .int .u64 0, .int .u64 0, .int .i64 0, .slice none 0 0]) 64 rfl Try.underlying35 infoX rfl (by decide) (by omega) (.slice none 0 0) ([] : List S55) xs A xs.length c ok (fun k => ok k ∧ some k ≠ (Value.slice A xs.length c).ownBlock) rfl rfl ?aO ?aR (fun _ _ h => h) (fun k hk => ⟨hk.1, by simp [Value.ownBlock]⟩) ?aF ?aB ?aS ?aL ?_
   (case aO => exact Kd.R_nil _ _ _ _ _)
   (case aR => obtain ⟨A_, c_, e_, -, hrow⟩ := OwnRow.reads HQx.out.2; injection e_ with e1_ e2_ e3_; subst e1_; exact hrow)
   (case aF => exact fun k hk => hfr k (Nat.le_trans HWX.out (Nat.le_trans (Nat.le_refl _) hk)))
   (case aB => exact HBx.out)
   (case aS => exact below_size HBx.out)
   (case aL => simp only [List.length_nil]; omega)
   intro v1 w1 ho hb hg1 hat
   rw [List.nil_append] at ho
   have hw1 := below_none hg1
   have HN := Aside0.mk (own_new hat)
   refine hK.out _ _ ⟨(blk_cell (blk_below HSx.out hw1) 0).trans rfl, (blk_cell (blk_below BKx.out hw1) 0).trans rfl, (blk_cell (blk_below BKx.out hw1) 1).trans rfl, (blk_cell (blk_below BKx.out hw1) 2).trans rfl, (blk_cell (blk_below BKx.out hw1) 3).trans rfl, (blk_cell (blk_below BKx.out hw1) 4).trans rfl, (blk_cell (blk_below BKx.out hw1) 5).trans rfl⟩ (fun hHeld => ?_)
   clear hK K
   refine Kn_ 10 ?_
   refine one_ (i := 7) (N := some 12) #[true, true, true, true, true, true, true, true, false, false, false, false] rfl rfl (by kernel_rfl) (by decide) (fun K hK => ?_)
   refine value_ (w1 := ?_) (v := ?_) (by rfl) rfl ?_ ?_
   rotate_left 2
   ·go_simp
    constructor
    ·rfl
    ·rfl
   refine hK.out _ _ ⟨(blk_cell (blk_alloc (blk_below HSx.out hw1) _) 0).trans rfl, (blk_cell (blk_alloc (blk_below BKx.out hw1) _) 0).trans rfl, (blk_cell (blk_alloc (blk_below BKx.out hw1) _) 1).trans rfl, (blk_cell (blk_alloc (blk_below BKx.out hw1) _) 2).trans rfl, (blk_cell (blk_alloc (blk_below BKx.out hw1) _) 3).trans rfl, (blk_cell (blk_alloc (blk_below BKx.out hw1) _) 4).trans rfl, (blk_cell (blk_alloc (blk_below BKx.out hw1) _) 5).trans rfl⟩ (fun hHeld => ?_)
   clear hK K
   refine Kn_ 12 ?_
   have HLIT := Aside0.mk (lit_row w0.heap.size okp w1 wx hw1 (⟨⟨⟨x0, x1, x2, x3⟩, x4⟩, ws⟩ : S55) vt HTx.out (Nat.le_trans (below_size HBx.out) hw1.size))
   have HO := Aside0.mk (Kd.R_below ho (below_alloc (Below.refl _ _) (Obj.cells #[.int .u64 x0, .int .u64 x1, .int .u64 x2, .int .u64 x3, .int .i64 x4, vt] 55)))
   have HB2 := Aside0.mk (below_alloc hb (Obj.cells #[.int .u64 x0, .int .u64 x1, .int .u64 x2, .int .u64 x3, .int .i64 x4, vt] 55))
   have hwy : Below wx.heap.size wx (w1.alloc (Obj.cells #[.int .u64 x0, .int .u64 x1, .int .u64 x2, .int .u64 x3, .int .i64 x4, vt] 55)) := below_step hw1 (below_alloc (Below.refl _ _) _)
   have HWY := Aside0.mk hwy
   clear ho hb hg1 hat hw1 hwy
   generalize w1.alloc (Obj.cells #[.int .u64 x0, .int .u64 x1, .int .u64 x2, .int .u64 x3, .int .i64 x4, vt] 55) = wy at HLIT HO HB2 HWY hHeld ⊢
   generalize w1.heap.size = gl at HLIT ⊢
   )
  | (
   refine value_ (w1 := ?_) (v := ?_) (by rfl) rfl ?_ ?_
   rotate_left 2
   ·go_simp
    constructor
    ·rfl
    ·rfl
   refine hK.out _ _ ⟨(blk_cell (blk_alloc HSx.out _) 0).trans rfl, (blk_cell (blk_alloc BKx.out _) 0).trans rfl, (blk_cell (blk_alloc BKx.out _) 1).trans rfl, (blk_cell (blk_alloc BKx.out _) 2).trans rfl, (blk_cell (blk_alloc BKx.out _) 3).trans rfl, (blk_cell (blk_alloc BKx.out _) 4).trans rfl, (blk_cell (blk_alloc BKx.out _) 5).trans rfl⟩ (fun hHeld => ?_)
   clear hK K
   refine Kn_ 12 ?_
   have HLIT0 := Aside0.mk (lit_row w0.heap.size okp wx wx (Below.refl _ _) (⟨⟨⟨x0, x1, x2, x3⟩, x4⟩, ws⟩ : S55) vt HTx.out (below_size HBx.out))
   have HQ0 := Aside0.mk (Kd.R_below HQx.out (below_alloc (Below.refl _ _) (Obj.cells #[.int .u64 x0, .int .u64 x1, .int .u64 x2, .int .u64 x3, .int .i64 x4, vt] 55)))
   have HB0 := Aside0.mk (below_alloc HBx.out (Obj.cells #[.int .u64 x0, .int .u64 x1, .int .u64 x2, .int .u64 x3, .int .i64 x4, vt] 55))
   have HW0 : Aside0 (Below wx.heap.size wx (wx.alloc (Obj.cells #[.int .u64 x0, .int .u64 x1, .int .u64 x2, .int .u64 x3, .int .i64 x4, vt] 55))) := ⟨below_alloc (Below.refl _ _) _⟩
   generalize wx.alloc (Obj.cells #[.int .u64 x0, .int .u64 x1, .int .u64 x2, .int .u64 x3, .int .i64 x4, vt] 55) = wq at HLIT0 HQ0 HB0 HW0 hHeld ⊢
   obtain ⟨gl, hgl⟩ : ∃ g_, g_ = wx.heap.size := ⟨_, rfl⟩
   have HLIT1 : Aside0 (ReadsRow (k55.M wq w0.heap.size (fun k => okp k ∧ k < wx.heap.size)) 6 wq (some ⟨gl, 0, none⟩) 1 [(⟨⟨⟨x0, x1, x2, x3⟩, x4⟩, ws⟩ : S55)]) := ⟨by rw [hgl]; exact HLIT0.out⟩
   rw [← hgl]
   clear hgl HLIT0
   refine one_ (i := 5) (N := some 10) #[true, true, true, true, true, true, true, true, false, false, false, false] rfl rfl (by kernel_rfl) (by decide) (fun K hK => ?_)
   refine Kd.R_append_rows_step k55 (w0 := w0) w0.heap.size (by rfl) (.const (.slice none 0 0)) (.tmp 9) 35 55 (.agg #[.int .u64 0, .int .u64 0, .int .u64 0, .int .u64 0, .int .i64 0, .slice none 0 0]) 64 rfl Try.underlying35 infoX rfl (by decide) (by omega) (.slice none 0 0) ([] : List S55) xs A xs.length c ok (fun k => ok k ∧ some k ≠ (Value.slice A xs.length c).ownBlock) rfl rfl ?aO ?aR (fun _ _ h => h) (fun k hk => ⟨hk.1, by simp [Value.ownBlock]⟩) ?aF ?aB ?aS ?aL ?_
   (case aO => exact Kd.R_nil _ _ _ _ _)
   (case aR => obtain ⟨A_, c_, e_, -, hrow⟩ := OwnRow.reads HQ0.out.2; injection e_ with e1_ e2_ e3_; subst e1_; exact hrow)
   (case aF => exact fun k hk => hfr k (Nat.le_trans HWX.out (Nat.le_trans HW0.out.size hk)))
   (case aB => exact HB0.out)
   (case aS => exact below_size HB0.out)
   (case aL => simp only [List.length_nil]; omega)
   intro v1 w1 ho hb hg1 hat
   rw [List.nil_append] at ho
   have hw1 := below_none hg1
   have HN : Aside0 (∀ k, k < wx.heap.size → some k ≠ v1.ownBlock) := ⟨fun k hk => own_new hat k (Nat.lt_of_lt_of_le hk HW0.out.size)⟩
   have HWY := Aside0.mk (below_step HW0.out hw1)
   have HLIT := Aside0.mk (ReadsRow.imp_ (R' := k55.M w1 w0.heap.size (fun k => okp k ∧ k < wx.heap.size)) HLIT1.out hw1 (fun _ _ hp => Kd.M_below hp hw1))
   have HO := Aside0.mk ho
   have HB2 := Aside0.mk hb
   refine hK.out _ _ ⟨(blk_cell (blk_below HSx.out HWY.out) 0).trans rfl, (blk_cell (blk_below BKx.out HWY.out) 0).trans rfl, (blk_cell (blk_below BKx.out HWY.out) 1).trans rfl, (blk_cell (blk_below BKx.out HWY.out) 2).trans rfl, (blk_cell (blk_below BKx.out HWY.out) 3).trans rfl, (blk_cell (blk_below BKx.out HWY.out) 4).trans rfl, (blk_cell (blk_below BKx.out HWY.out) 5).trans rfl⟩ (fun hHeld => ?_)
   clear hK K HLIT1 HQ0 HB0 HW0 ho hb hg1 hat hw1
   refine Kn_ 10 ?_
   generalize w1 = wy at HLIT HO HB2 HWY hHeld ⊢
   )
 all_goals
  refine one_ (i := 8) (N := some 13) #[true, true, true, true, true, true, true, true, true, false, false, false] rfl rfl (by kernel_rfl) (by decide) (fun K hK => ?_)
  refine Kd.R_append_rows_step k55 (w0 := w0) w0.heap.size (by rfl) (.tmp 10) (.tmp 12) 35 55 (.agg #[.int .u64 0, .int .u64 0, .int .u64 0, .int .u64 0, .int .i64 0, .slice none 0 0]) 64 rfl Try.underlying35 infoX rfl (by decide) (by omega) v1 xs [(⟨⟨⟨x0, x1, x2, x3⟩, x4⟩, ws⟩ : S55)] (some ⟨gl, 0, none⟩) 1 1 ok (fun k => okp k ∧ k < wx.heap.size) rfl rfl ?aO ?aR (fun _ _ h => h) (fun k hk => ⟨hokp k hk.1, HN.out k hk.2⟩) ?aF ?aB ?aS ?aL ?_
  (case aO => exact HO.out)
  (case aR => exact HLIT.out)
  (case aF => exact fun k hk => hfr k (Nat.le_trans HWX.out (Nat.le_trans HWY.out.size hk)))
  (case aB => exact HB2.out)
  (case aS => exact below_size HB2.out)
  (case aL => omega)
  intro v2 w2 ho hb hg1 hat
  obtain ⟨A2, c2, e2⟩ := Kd.R_slice ho
  rw [hlen] at e2
  subst e2
  have hw2 : Below wx.heap.size wx w2 := ⟨hg1.os.trans HWY.out.os, hg1.tape.trans HWY.out.tape, hg1.output.trans HWY.out.output, Nat.le_trans HWY.out.size hg1.size, fun k hk => (hg1.block k (Nat.lt_of_lt_of_le hk HWY.out.size) (HN.out k hk)).trans (HWY.out.block k hk)⟩
  have HW2 := Aside0.mk hw2
  have HO2 := Aside0.mk ho
  have HB3 := Aside0.mk hb
  have HS2 := Aside0.mk (blk_below HSx.out hw2)
  clear ho hb hg1 hat
  refine hK.out _ _ ⟨(blk_cell (blk_below HSx.out hw2) 0).trans rfl, (blk_cell (blk_below BKx.out hw2) 0).trans rfl, (blk_cell (blk_below BKx.out hw2) 1).trans rfl, (blk_cell (blk_below BKx.out hw2) 2).trans rfl, (blk_cell (blk_below BKx.out hw2) 3).trans rfl, (blk_cell (blk_below BKx.out hw2) 4).trans rfl, (blk_cell (blk_below BKx.out hw2) 5).trans rfl⟩ (fun hHeld => ?_)
  clear hK K hw2
  refine Kn_ 13 ?_
  refine Kp_ 9 14 #[true, true, true, true, true, true, true, true, true, true, false, false] (by kernel_rfl) ?_
  refine Kp_ 10 15 #[true, true, true, true, true, true, true, true, true, true, true, false] (by kernel_rfl) ?_
  obtain ⟨h0, h1, f0, f1⟩ := Ke2_ HS2.out
  refine last_ (i := 11) (N := none) #[true, true, true, true, true, true, true, true, true, true, true, true] rfl rfl (by kernel_rfl) (by decide) (fun K hK => ?_)
  refine skip_ (w1 := ?_) (by rfl) rfl ?_ ?_
  rotate_left
  ·go_simp
   rfl
  refine hK.out _ _ ?_
  clear hK K
  refine done_ (by kernel_rfl) ?_
  clear h0 h1 f0 f1 hHeld
  have HS3 : Aside0 (StX (w2.setCell ⟨g, 0, none⟩ (.slice A2 (xs.length + 1) c2)) g (.slice A2 (xs.length + 1) c2) n) := ⟨blk_put (cs := #[.slice A xs.length c, .int .u64 n]) HS2.out 0 _ rfl⟩
  have h0 := (blk_cell HS3.out 0).trans rfl
  have h1 := (blk_cell HS3.out 1).trans rfl
  have hse : w2.heap.size = (w2.setCell ⟨g, 0, none⟩ (.slice A2 (xs.length + 1) c2)).heap.size := (World.size_setCell _ _ _).symm
  clear hse
  go_wp2
  go_ret
  refine ⟨by first | rfl | simp, ⟨_, HS3.out, Kd.R_far HO2.out (p := ⟨g, 0, none⟩) (fun k hk => hok k hk) _, fun k hk hkg => ?_⟩, HB3.out.setCell hg _⟩
  have q1 := Below.heap_setCell w2 ⟨g, 0, none⟩ (.slice A2 (xs.length + 1) c2) k hkg
  have q2 := HW2.out.block k (Nat.lt_of_lt_of_le hk HWX.out)
  have q3 := HWW.out.block k hk
  rw [q1, q2, q3]
theorem wrap64_id {x : Int} (h0 : -9223372036854775808 ≤ x) (h1 : x ≤ 9223372036854775807) : wrap64 x = x := by
 unfold wrap64; omega
theorem i64_id {x : Int} (h0 : 0 ≤ x) (h1 : x ≤ 1000000) : IntKind.i64.wrap x = x := by
 rw [IntKind.wrap_i64]
 omega
theorem elem_x {w : World} {base : Nat} {ok : Nat → Prop} {A : Option Addr} {c : Nat} {xs : List S55} (hQ : Kd.R k55 55 w base ok (.slice A xs.length c) xs) (i : Nat) (p : S55) (hi : xs[i]? = some p) :
  ∃ ad vt, A = some ad ∧ Kd.R k117 117 w base (fun k => k < w.heap.size) vt p.f1 ∧ w.cell? (ad.add (i * 6)) = some (.int .u64 p.f0.f0.f0) ∧ w.cell? ⟨(ad.add (i * 6)).block, (ad.add (i * 6)).off + 1, none⟩ = some (.int .u64 p.f0.f0.f1) ∧ w.cell? ⟨(ad.add (i * 6)).block, (ad.add (i * 6)).off + 2, none⟩ = some (.int .u64 p.f0.f0.f2) ∧ w.cell? ⟨(ad.add (i * 6)).block, (ad.add (i * 6)).off + 3, none⟩ = some (.int .u64 p.f0.f0.f3) ∧ w.cell? ⟨(ad.add (i * 6)).block, (ad.add (i * 6)).off + 4, none⟩ = some (.int .i64 p.f0.f1) ∧ w.cell? ⟨(ad.add (i * 6)).block, (ad.add (i * 6)).off + 5, none⟩ = some vt := by
 obtain ⟨A_, c_, e_, -, hrow⟩ := OwnRow.reads hQ.2
 injection e_ with e1_ e2_ e3_
 subst e1_
 have hl : i < xs.length := by
  rcases Nat.lt_or_ge i xs.length with h | h
  ·exact h
  ·rw [List.getElem?_eq_none h] at hi; cases hi
 obtain ⟨ad, e, hc⟩ := hrow.2.2 (by omega)
 obtain ⟨cs, hs, hm, hcell⟩ := hc i p hi
 have hm2 := k55.M_mono (ok' := fun k => k < w.heap.size) (fun k hk => hk.2.2.1) (k55.M_bound hm)
 obtain ⟨vt, rfl, hR⟩ := k55_openM hm2
 have hcc : ∀ j u, ([.int .u64 p.f0.f0.f0, .int .u64 p.f0.f0.f1, .int .u64 p.f0.f0.f2, .int .u64 p.f0.f0.f3, .int .i64 p.f0.f1, vt] : List Value)[j]? = some u → w.cell? (ad.add (i * 6 + j)) = some u := hcell
 refine ⟨ad, vt, e, hR, hcc 0 _ rfl, ?_, ?_, ?_, ?_, ?_⟩
 ·rw [← add_field _ _ 1 (by omega)]; exact hcc 1 _ rfl
 ·rw [← add_field _ _ 2 (by omega)]; exact hcc 2 _ rfl
 ·rw [← add_field _ _ 3 (by omega)]; exact hcc 3 _ rfl
 ·rw [← add_field _ _ 4 (by omega)]; exact hcc 4 _ rfl
 ·rw [← add_field _ _ 5 (by omega)]; exact hcc 5 _ rfl
set_option maxHeartbeats 8000000 in
set_option maxRecDepth 100000 in
theorem xrest_c (w0 w : World) {g : Nat} {n : Nat} {v : Value} {xs : List S55} (k : Int) (ys : List S55) (ok : Nat → Prop) (hS : StX w g v (n : Int)) (hQ : Kd.R k55 55 w w0.heap.size ok v xs) (hB : Below w0.heap.size w0 w) (n1 : n ≤ 900) (m1 : xs.length ≤ 900)
  (hy : ∀ j : Nat, j < ys.length → ys[j]? = xs[n + j]?) (h1 : ∀ j : Nat, j < ys.length → (j : Int) < k ∧ n + j < xs.length) (h2 : (ys.length : Int) < k → xs.length ≤ n + ys.length) :
  Calls Try.prog 16 #[.pointer (some ⟨g, 0, none⟩), .int .i64 k] w fun e w' => ∃ A1 c1, e = .returned (.slice A1 ys.length c1) ∧ ys.length ≤ c1 ∧ Kd.C k55 w' A1 ys.length ys ∧ Below w.heap.size w w' := by
 obtain ⟨A, c, hv⟩ := Kd.R_slice hQ
 subst hv
 have HS := Aside0.mk hS
 have HQ := Aside0.mk hQ
 have HB0 := Aside0.mk hB
 have HY := Aside0.mk hy
 have H1 := Aside0.mk h1
 have H2 := Aside0.mk h2
 have HL : Aside0 (ys.length ≤ xs.length) := ⟨by
  rcases Nat.eq_zero_or_pos ys.length with h | h
  ·omega
  ·have := (h1 (ys.length - 1) (by omega)).2
   omega⟩
 have e9 : IntKind.i64.wrap (n : Int) = (n : Int) := i64_id (by omega) (by omega)
 have h0 : w.cell? ⟨g, 0, none⟩ = some (.slice A xs.length c) := (blk_cell hS 0).trans rfl
 have h1c : w.cell? ⟨g, 1, none⟩ = some (.int .u64 (n : Int)) := (blk_cell hS 1).trans rfl
 clear hS hQ hB hy h1 h2
 go_enter Try.func16, Try.ntmps16
 go_wp2
 clear h0 h1c
 go_loopg [5, 6] ys.length (fun kq v5 v6 wr => ∃ (j : Nat), v6 = .int .i64 ((n + j : Nat) : Int) ∧ Aside0 (j ≤ ys.length) ∧ Aside0 (ys.length - j ≤ kq) ∧ Aside0 (Kd.R k55 55 wr w0.heap.size (fun _ => True) v5 (ys.take j)) ∧ Aside0 (∀ b, v5.ownBlock = some b → w.heap.size ≤ b) ∧ Aside0 (Below w.heap.size w wr))
 case atStart => exact ⟨0, rfl, ⟨by omega⟩, ⟨by omega⟩, ⟨Kd.R_nil _ _ _ _ _⟩, ⟨fun b h => by simp [Value.ownBlock] at h⟩, ⟨Below.refl _ _⟩⟩
 case round =>
  obtain ⟨j, rfl, HJ, HK, HO, HF, HB⟩ := hrel
  obtain ⟨A5, c5, hv5⟩ := Kd.R_slice HO.out
  have hlt : (ys.take j).length = j := by rw [List.length_take]; have := HJ.out; omega
  rw [hlt] at hv5
  subst hv5
  have HSr := Aside0.mk (blk_below HS.out HB.out)
  have h0 : wr.cell? ⟨g, 0, none⟩ = some (.slice A xs.length c) := (blk_cell HSr.out 0).trans rfl
  have h1 : wr.cell? ⟨g, 1, none⟩ = some (.int .u64 (n : Int)) := (blk_cell HSr.out 1).trans rfl
  by_cases cj : j < ys.length
  rotate_left
  ·have hj : j = ys.length := by have := HJ.out; omega
   have htk : ys.take j = ys := List.take_of_length_le (by omega)
   rw [htk] at HO
   subst hj
   by_cases c1 : n + ys.length < xs.length
   rotate_left
   ·have c1b : decide (((n + ys.length : Nat) : Int) < (xs.length : Int)) = false := decide_eq_false (by omega)
    go_wp2
    go_ret
    exact ⟨A5, c5, rfl, (Kd.R_reads' HO.out).2.1, (Kd.R_reads' HO.out).2.2, HB.out⟩
   ·have c1b : decide (((n + ys.length : Nat) : Int) < (xs.length : Int)) = true := decide_eq_true (by omega)
    have c2b : decide ((ys.length : Int) < k) = false := decide_eq_false (fun h => by have := H2.out h; omega)
    go_wp2
    go_ret
    exact ⟨A5, c5, rfl, (Kd.R_reads' HO.out).2.1, (Kd.R_reads' HO.out).2.2, HB.out⟩
  ·have c1 := (H1.out j cj).2
   have c1b : decide (((n + j : Nat) : Int) < (xs.length : Int)) = true := decide_eq_true (by omega)
   have c2b : decide ((j : Int) < k) = true := decide_eq_true (H1.out j cj).1
   have c0b : decide (0 ≤ ((n + j : Nat) : Int)) = true := decide_eq_true (by omega)
   have hx : xs[n + j]? = some (xs[n + j]'c1) := List.getElem?_eq_getElem c1
   obtain ⟨p, hp⟩ : ∃ p, p = xs[n + j]'c1 := ⟨_, rfl⟩
   rw [← hp] at hx
   have HTK : Aside0 (ys.take (j + 1) = ys.take j ++ [p]) := ⟨by rw [List.take_add_one, HY.out j cj, hx]; rfl⟩
   obtain ⟨ad, vt, e0, hRt, a0, a1, a2, a3, a4, a5⟩ := elem_x HQ.out (n + j) p hx
   cases e0
   have HRT := Aside0.mk (Kd.R_below hRt HB.out)
   clear hRt hx hp
   obtain ⟨⟨⟨x0, x1, x2, x3⟩, x4⟩, ws⟩ := p
   simp only at a0 a1 a2 a3 a4 a5 HRT
   replace a0 := (HB.out.cell (World.block_lt_of_cell? _ _ a0)).trans a0
   replace a1 := (HB.out.cell (World.block_lt_of_cell? _ _ a1)).trans a1
   replace a2 := (HB.out.cell (World.block_lt_of_cell? _ _ a2)).trans a2
   replace a3 := (HB.out.cell (World.block_lt_of_cell? _ _ a3)).trans a3
   replace a4 := (HB.out.cell (World.block_lt_of_cell? _ _ a4)).trans a4
   replace a5 := (HB.out.cell (World.block_lt_of_cell? _ _ a5)).trans a5
   go_wp2_with (first | ((with_reducible refine gate_builtin (b := .append) (xs := #[.tmp 27, .tmp 35]) rfl ?_); at_builtin; refine Kd.R_append k55 (w0 := w0) w0.heap.size rfl (.tmp 27) (.tmp 35) 35 55 (.agg #[.int .u64 0, .int .u64 0, .int .u64 0, .int .u64 0, .int .i64 0, .slice none 0 0]) 64 rfl Try.underlying35 infoX rfl (by decide) (by omega) (.slice A5 j c5) (ys.take j) (⟨⟨⟨x0, x1, x2, x3⟩, x4⟩, ws⟩ : S55) [.int .u64 x0, .int .u64 x1, .int .u64 x2, .int .u64 x3, .int .i64 x4, vt] (fun _ => True) (fun k => k < w.heap.size) rfl rfl ?aP ?aN ?aF ?aO ?aB ?aS ?aL ?_; (case aP => exact k55_mkM _ _ _ (⟨⟨⟨x0, x1, x2, x3⟩, x4⟩, ws⟩ : S55) HRT.out); (case aN => exact fun k hk => ⟨trivial, fun e => by have := HF.out k e.symm; omega⟩); (case aF => exact (fun _ _ => trivial)); (case aO => exact HO.out); (case aB => exact below_step HB0.out HB.out); (case aS => exact below_size (below_step HB0.out HB.out)); (case aL => rw [hlt]; omega); intro v1 w6 ho hb hg6 hat; have HO6 := Aside0.mk ho; have HG6 := Aside0.mk hg6; have HAT := Aside0.mk hat; clear ho hb hg6 hat))
   go_roundg (ys.length - (j + 1))
   case measure => have := HK.out; omega
   case rel =>
    refine ⟨j + 1, by first | rfl | (rw [show ((n + (j + 1) : Nat) : Int) = ((n + j : Nat) : Int) + 1 by omega]; congr 1; exact i64_id (by omega) (by omega)), ⟨by omega⟩, ⟨by omega⟩, ⟨by rw [HTK.out]; exact HO6.out⟩, ⟨fun b hb => ?_⟩, ⟨?_⟩⟩
    ·rcases HAT.out with h | ⟨b', h, hle⟩
     ·exact HF.out b (by rw [← h]; exact hb)
     ·rw [h] at hb; injection hb with hb; rw [← hb]; exact Nat.le_trans HB.out.size hle
    ·refine ⟨HG6.out.os.trans HB.out.os, HG6.out.tape.trans HB.out.tape, HG6.out.output.trans HB.out.output, Nat.le_trans HB.out.size HG6.out.size, fun q hq => (HG6.out.block q (Nat.lt_of_lt_of_le hq HB.out.size) (fun e => by have := HF.out q e.symm; omega)).trans (HB.out.block q hq)⟩
def Inv (w0 w : World) (go gx : Nat) (ts : List S33) (a : Nat) (us : List S55) (b : Nat) : Prop :=
 ∃ v vx, St w go (a : Int) v ∧ Kd.Q k33 33 w w0.heap.size (fun _ => True) v (ts.drop a) ∧ StX w gx vx (b : Int) ∧ Kd.R k55 55 w w0.heap.size (fun _ => True) vx us ∧ Below w0.heap.size w0 w ∧ w0.heap.size ≤ go ∧ w0.heap.size ≤ gx ∧ a ≤ ts.length ∧ ts.length ≤ 60 ∧ us.length ≤ 60 ∧ b ≤ 60
theorem Inv.below {w0 w w1 : World} {go gx : Nat} {ts : List S33} {a : Nat} {us : List S55} {b : Nat} (h : Inv w0 w go gx ts a us b) (hb : Below w.heap.size w w1) : Inv w0 w1 go gx ts a us b := by
 obtain ⟨v, vx, h1, h2, h3, h4, h5, h6⟩ := h
 exact ⟨v, vx, blk_below h1 hb, Kd.Q_below h2 hb, blk_below h3 hb, Kd.R_below h4 hb, below_step h5 hb, h6⟩
theorem Inv.bel {w0 w : World} {go gx : Nat} {ts : List S33} {a : Nat} {us : List S55} {b : Nat} (h : Inv w0 w go gx ts a us b) : Below w0.heap.size w0 w := by
 obtain ⟨v, vx, h1, h2, h3, h4, h5, h6⟩ := h
 exact h5
theorem cellsX {w0 w : World} {go gx : Nat} {ts : List S33} {a : Nat} {us : List S55} {b : Nat} (h : Inv w0 w go gx ts a us b) : ∃ A c, w.cell? ⟨gx, 0, none⟩ = some (.slice A us.length c) ∧ w.cell? ⟨gx, 1, none⟩ = some (.int .u64 (b : Int)) := by
 obtain ⟨v, vx, h1, h2, h3, h4, h5, h6⟩ := h
 obtain ⟨A, c, rfl⟩ := Kd.R_slice h4
 exact ⟨A, c, (blk_cell h3 0).trans rfl, (blk_cell h3 1).trans rfl⟩
theorem Inv.own {w0 w : World} {go gx : Nat} {ts : List S33} {a : Nat} {us : List S55} {b : Nat} (h : Inv w0 w go gx ts a us b) : ∀ v n, St w go n v → ∀ k, v.ownBlock = some k → k < w.heap.size := by
 obtain ⟨v0, vx, h1, h2, h3⟩ := h
 intro v n hv k hk
 unfold St at h1 hv
 rw [h1] at hv
 have e : v0 = v := by simpa using (by simpa using hv : _ ∧ _).2
 subst e
 obtain ⟨_, inner, ho, _⟩ := h2
 exact q_lt ho k hk
theorem Inv.lt {w0 w : World} {go gx : Nat} {ts : List S33} {a : Nat} {us : List S55} {b : Nat} (h : Inv w0 w go gx ts a us b) : go < w.heap.size ∧ gx < w.heap.size := by
 obtain ⟨v0, vx, h1, h2, h3, _⟩ := h
 exact ⟨blk_lt h1, blk_lt h3⟩
theorem Inv.ne {w0 w : World} {go gx : Nat} {ts : List S33} {a : Nat} {us : List S55} {b : Nat} (h : Inv w0 w go gx ts a us b) : gx ≠ go := by
 obtain ⟨v, vx, h1, h2, h3, h4, h5, h6⟩ := h
 rintro rfl
 unfold St at h1
 unfold StX at h3
 rw [h1] at h3
 injection h3 with h3
 injection h3 with _ h3 _
 exact absurd h3 (by decide)
theorem keepX {w0 w w1 : World} {go gx : Nat} {n m : Int} {v vx : Value} {xs : List S33} {us : List S55} (hO : St w go n v) (hQ : Kd.Q k33 33 w w0.heap.size (fun _ => True) v xs) (hX : StX w gx vx m) (hR : Kd.R k55 55 w w0.heap.size (fun _ => True) vx us) (hne : gx ≠ go)
  (hk : ∀ k, k < w.heap.size → k ≠ go → some k ≠ v.ownBlock → w1.heap[k]? = w.heap[k]?) : StX w1 gx vx m ∧ Kd.R k55 55 w1 w0.heap.size (fun _ => True) vx us := by
 constructor
 ·exact (hk gx (blk_lt hX) hne (Kd.Q_ne hQ hX (by decide))).trans hX
 ·have h1 := Kd.R_bound (Kd.R_types hR hO (by decide))
  refine Kd.R_mono (Kd.R_move h1 (fun k hk' => ?_)) (fun _ _ => trivial)
  obtain ⟨⟨-, h2⟩, -, h3, q, hq, cs, hc⟩ := hk'
  refine hk k h3 h2 (fun e => ?_)
  obtain ⟨_, inner, ho, _⟩ := hQ
  obtain ⟨_, cs2, hc2⟩ := q_typed ho k e.symm
  rw [hc] at hc2
  injection hc2 with hc2
  injection hc2 with _ hc2 _
  subst hc2
  exact absurd hq (by decide)
theorem keepO {w0 w w1 : World} {go gx : Nat} {n m : Int} {v vx : Value} {xs : List S33} (hO : St w go n v) (hQ : Kd.Q k33 33 w w0.heap.size (fun _ => True) v xs) (hX : StX w gx vx m) (hne : gx ≠ go)
  (hk : ∀ k, k < w.heap.size → k ≠ gx → w1.heap[k]? = w.heap[k]?) : St w1 go n v ∧ Kd.Q k33 33 w1 w0.heap.size (fun _ => True) v xs := by
 constructor
 ·exact (hk go (blk_lt hO) (fun e => hne e.symm)).trans hO
 ·exact Kd.Q_mono (Kd.Q_step (Kd.Q_types hQ hX (by decide)) (fun k hk' hlt => hk k hlt hk'.2)) (fun _ _ => trivial)
theorem start (w0 w : World) (go gx : Nat) (h1 : St w go 0 (.slice none 0 0)) (h2 : StX w gx (.slice none 0 0) 0) (hB : Below w0.heap.size w0 w) (hg : w0.heap.size ≤ go) (hx : w0.heap.size ≤ gx) : Inv w0 w go gx [] 0 [] 0 :=
 ⟨_, _, h1, Kd.Q_nil _ _ _ _ _, h2, Kd.R_nil _ _ _ _ _, hB, hg, hx, Nat.le_refl _, Nat.zero_le _, Nat.zero_le _, Nat.zero_le _⟩
theorem o_acked (w0 w : World) {go gx : Nat} {ts : List S33} {a : Nat} {us : List S55} {b : Nat} (h : Inv w0 w go gx ts a us b) :
  Calls Try.prog 22 #[.pointer (some ⟨go, 0, none⟩)] w fun e w' => e = .returned (.int .u64 (a : Int)) ∧ Below w.heap.size w w' := by
 obtain ⟨v, vx, h1, h2⟩ := h
 exact acked_c w h1
theorem o_last (w0 w : World) {go gx : Nat} {ts : List S33} {a : Nat} {us : List S55} {b : Nat} (h : Inv w0 w go gx ts a us b) :
  Calls Try.prog 23 #[.pointer (some ⟨go, 0, none⟩)] w fun e w' => e = .returned (.int .u64 (ts.length : Int)) ∧ Below w.heap.size w w' := by
 have h' := h
 obtain ⟨v, vx, h1, h2, h3, h4, h5, h6, h7, h8, h9, h10, h11⟩ := h'
 obtain ⟨A, c, rfl, hc⟩ := Kd.Q_slice h2
 have hd : (ts.drop a).length = ts.length - a := List.length_drop
 rw [hd] at h1
 refine (last_c w h1 (by omega) (by omega) (by omega)).mono ?_
 rintro e w' ⟨rfl, hb⟩
 refine ⟨?_, hb⟩
 rw [show (a : Int) + ((ts.length - a : Nat) : Int) = (ts.length : Int) by omega]
theorem o_ack (w0 w : World) {go gx : Nat} {ts : List S33} {a : Nat} {us : List S55} {b : Nat} (h : Inv w0 w go gx ts a us b) (n : Int) (r : Bool) (a' : Nat) (hr : r = decide ((a : Int) < n ∧ n ≤ (ts.length : Int))) (ha : a' = if r = true then n.toNat else a) :
  Calls Try.prog 13 #[.pointer (some ⟨go, 0, none⟩), .int .u64 n] w fun e w' => e = .returned (.bool r) ∧ Inv w0 w' go gx ts a' us b := by
 have h' := h
 obtain ⟨v, vx, h1, h2, h3, h4, h5, h6, h7, h8, h9, h10, h11⟩ := h'
 obtain ⟨A, c, rfl, hc⟩ := Kd.Q_slice h2
 have hd : (ts.drop a).length = ts.length - a := List.length_drop
 rw [hd] at h1 hc
 by_cases hin : (a : Int) < n ∧ n ≤ (ts.length : Int)
 ·rw [decide_eq_true hin] at hr
  subst hr
  rw [if_pos rfl] at ha
  obtain ⟨j, hj⟩ : ∃ j : Nat, n = (a : Int) + (j : Int) := ⟨(n - a).toNat, by omega⟩
  refine (ack_yes (j := j) w0 w h1 h5 h6 (by omega) (by omega) (by omega) hj (by omega) (by omega) hc).mono ?_
  rintro e w' ⟨rfl, hS, hK, hB⟩
  obtain ⟨hX, hR⟩ := keepX h1 (by rw [← hd]; exact h2) h3 h4 (h.ne) (fun k hk hg _ => hK.2 k hk hg (by simp))
  refine ⟨rfl, .slice (if c = j then A else A.map (·.add (j * 6))) (ts.length - a - j) (c - j), vx, ?_, ?_, hX, hR, hB, h6, h7, by omega, h9, h10, h11⟩
  ·rw [show ((a' : Nat) : Int) = n by omega]; exact hS
  ·have hQ := Kd.Q_drop (k := j) h2 (by rw [hd]; omega)
   rw [List.drop_drop, hd] at hQ
   rw [show a' = a + j by omega]
   exact Kd.Q_mono (Kd.Q_keep (Kd.Q_types hQ h1 (by decide)) hK (fun k hk => hk.2)) (fun _ _ => trivial)
 ·rw [decide_eq_false hin] at hr
  subst hr
  rw [if_neg (by simp)] at ha
  subst ha
  refine (ack_no w h1 (by omega) (by omega) (by omega) (by omega)).mono ?_
  rintro e w' ⟨rfl, hb⟩
  exact ⟨rfl, h.below hb⟩
set_option maxHeartbeats 4000000 in
set_option maxRecDepth 100000 in
theorem x_ack (w0 w : World) {go gx : Nat} {ts : List S33} {a : Nat} {us : List S55} {b : Nat} (h : Inv w0 w go gx ts a us b) (n : Int) (r : Bool) (b' : Nat) (hr : r = decide ((b : Int) < n ∧ n ≤ (us.length : Int))) (ha : b' = if r = true then n.toNat else b) :
  Calls Try.prog 14 #[.pointer (some ⟨gx, 0, none⟩), .int .u64 n] w fun e w' => e = .returned (.bool r) ∧ Inv w0 w' go gx ts a us b' := by
 have h' := h
 obtain ⟨v, vx, h1, h2, h3, h4, h5, h6, h7, h8, h9, h10, h11⟩ := h'
 obtain ⟨A, c, rfl⟩ := Kd.R_slice h4
 have HH := Aside0.mk h
 have H3 := Aside0.mk h3
 have HREST := Aside0.mk (And.intro h1 (And.intro h2 (And.intro h4 (And.intro h5 (And.intro h6 (And.intro h7 (And.intro h8 (And.intro h9 h10))))))))
 have e2 : IntKind.u64.wrap (us.length : Int) = (us.length : Int) := w64 (by omega) (by omega)
 obtain ⟨q0, q1, f0, f1⟩ := Ke2_ h3
 have H11 := Aside0.mk h11
 have hL : us.length ≤ 60 := h10
 clear h1 h2 h3 h4 h5 h6 h7 h8 h9 h10 h h11
 by_cases c1 : (us.length : Int) < n
 ·have c1b : decide ((us.length : Int) < n) = true := decide_eq_true c1
  rw [decide_eq_false (by omega)] at hr
  subst hr
  rw [if_neg (by simp)] at ha
  subst ha
  go_enter Try.func14, Try.ntmps14
  go_wp2
  go_ret
  exact ⟨rfl, HH.out⟩
 have c1b : decide ((us.length : Int) < n) = false := decide_eq_false c1
 by_cases c2 : n ≤ (b : Int)
 ·have c2b : decide (n ≤ (b : Int)) = true := decide_eq_true c2
  rw [decide_eq_false (by omega)] at hr
  subst hr
  rw [if_neg (by simp)] at ha
  subst ha
  go_enter Try.func14, Try.ntmps14
  go_wp2
  go_ret
  exact ⟨rfl, HH.out⟩
 have c2b : decide (n ≤ (b : Int)) = false := decide_eq_false c2
 rw [decide_eq_true (by omega)] at hr
 subst hr
 rw [if_pos rfl] at ha
 have HA : Aside0 ((b' : Int) = n ∧ b' ≤ 60) := ⟨by omega, by omega⟩
 clear ha c1 c2
 go_enter Try.func14, Try.ntmps14
 go_wp2
 go_ret
 obtain ⟨h1, h2, h4, h5, h6, h7, h8, h9, h10⟩ := HREST.out
 refine ⟨rfl, v, .slice A us.length c, ?_, ?_, ?_, ?_, h5.setCell h7 _, h6, h7, h8, h9, h10, HA.out.2⟩
 ·exact blk_far h1 (fun e => HH.out.ne e.symm) _
 ·exact Kd.Q_mono (Kd.Q_far (p := ⟨gx, 1, none⟩) (Kd.Q_types h2 H3.out (by decide)) (fun k hk => hk.2) _) (fun _ _ => trivial)
 ·rw [HA.out.1]; exact blk_put (cs := #[.slice A us.length c, .int .u64 (b : Int)]) H3.out 1 _ rfl
 ·exact Kd.R_mono (Kd.R_far (p := ⟨gx, 1, none⟩) (Kd.R_types h4 H3.out (by decide)) (fun k hk => hk.2) _) (fun _ _ => trivial)
theorem o_push (w0 w : World) {go gx : Nat} {ts : List S33} {a : Nat} {us : List S55} {b : Nat} (h : Inv w0 w go gx ts a us b) (hl : ts.length ≤ 59) (x0 x1 x2 x3 x4 : Int) (ws : List S107) (vt : Value) (hT : Kd.R k107 107 w w0.heap.size (fun _ => True) vt ws) (gn : Nat) (hn1 : gn < w.heap.size) (hn2 : gn ≠ go) (hn3 : ∀ v n, St w go n v → some gn ≠ v.ownBlock) :
  Calls Try.prog 20 #[.pointer (some ⟨go, 0, none⟩), .agg #[.int .u64 x0, .int .u64 x1, .int .u64 x2, .int .u64 x3, .int .i64 x4, vt]] w fun e w' => e = .returned (.int .u64 ((ts.length : Int) + 1)) ∧ Inv w0 w' go gx (ts ++ [⟨⟨⟨x0, x1, x2, x3⟩, x4⟩, ws⟩]) a us b ∧ Kd.R k107 107 w' w0.heap.size (fun _ => True) vt ws ∧ w'.heap[gn]? = w.heap[gn]? := by
 have h' := h
 obtain ⟨v, vx, h1, h2, h3, h4, h5, h6, h7, h8, h9, h10, h11⟩ := h'
 have hd : (ts.drop a).length = ts.length - a := List.length_drop
 have hT2 := Kd.R_bound (Kd.R_types hT h1 (by decide))
 have hne : ∀ k, (((True ∧ k ≠ go)) ∧ w0.heap.size ≤ k ∧ k < w.heap.size ∧ ∃ q, q ∈ 107 :: (k107).E ∧ ∃ cells, w.heap[k]? = some (.cells cells q (0, 0))) → some k ≠ v.ownBlock := by
  rintro k ⟨-, -, -, q, hq, cs, hc⟩ e
  obtain ⟨_, inner, ho, _⟩ := h2
  obtain ⟨_, cs2, hc2⟩ := q_typed ho k e.symm
  rw [hc] at hc2
  injection hc2 with hc2
  injection hc2 with _ hc2 _
  subst hc2
  exact absurd hq (by decide)
 refine (push_c w0 w x0 x1 x2 x3 x4 ws vt ((ts.length : Int) + 1) (by rw [hd]; omega) (fun k => True ∧ k ≠ go) _ (fun k hk => hk.2) (fun k hk => ⟨trivial, fun e => by have := blk_lt h1; omega⟩) (fun k hk => ⟨hk.1, hne k hk⟩) h1 (Kd.Q_types h2 h1 (by decide)) hT2 h5 h6 (by omega) (by omega) (by rw [hd]; omega)).mono ?_
 rintro e w' ⟨rfl, ⟨v', hS, hQ, hown, hk⟩, hB⟩
 obtain ⟨hX, hR⟩ := keepX h1 h2 h3 h4 h.ne hk
 refine ⟨rfl, ⟨v', vx, hS, ?_, hX, hR, hB, h6, h7, by rw [List.length_append]; omega, by rw [List.length_append, List.length_singleton]; omega, h10, h11⟩, ?_, hk gn hn1 hn2 (hn3 v _ h1)⟩
 ·rw [List.drop_append_of_le_length h8]
  exact Kd.Q_mono hQ (fun _ _ => trivial)
 ·refine Kd.R_mono (Kd.R_move hT2 (fun k hk' => hk k hk'.2.2.1 hk'.1.2 (hne k hk'))) (fun _ _ => trivial)
theorem x_push (w0 w : World) {go gx : Nat} {ts : List S33} {a : Nat} {us : List S55} {b : Nat} (h : Inv w0 w go gx ts a us b) (hl : us.length ≤ 59) (x0 x1 x2 x3 x4 : Int) (ws : List S117) (vt : Value) (hT : Kd.R k117 117 w w0.heap.size (fun _ => True) vt ws) :
  Calls Try.prog 21 #[.pointer (some ⟨gx, 0, none⟩), .agg #[.int .u64 x0, .int .u64 x1, .int .u64 x2, .int .u64 x3, .int .i64 x4, vt]] w fun e w' => e = .returned (.int .u64 ((us.length : Int) + 1)) ∧ Inv w0 w' go gx ts a (us ++ [⟨⟨⟨x0, x1, x2, x3⟩, x4⟩, ws⟩]) b ∧ ∀ k, k < w.heap.size → k ≠ gx → w'.heap[k]? = w.heap[k]? := by
 have h' := h
 obtain ⟨v, vx, h1, h2, h3, h4, h5, h6, h7, h8, h9, h10, h11⟩ := h'
 refine (xpush_c w0 w x0 x1 x2 x3 x4 ws vt ((us.length : Int) + 1) rfl (fun k => True ∧ k ≠ gx) (fun k => True ∧ k ≠ gx) (fun k hk => hk.2) (fun k hk => ⟨trivial, fun e => by have := blk_lt h3; omega⟩) (fun k hk => hk) h3 (Kd.R_types h4 h3 (by decide)) (Kd.R_types hT h3 (by decide)) h5 h7 (by omega)).mono ?_
 rintro e w' ⟨rfl, ⟨v', hS, hR, hk⟩, hB⟩
 obtain ⟨hO, hQ⟩ := keepO h1 h2 h3 h.ne hk
 exact ⟨rfl, ⟨v, v', hO, hQ, hS, Kd.R_mono hR (fun _ _ => trivial), hB, h6, h7, h8, h9, by rw [List.length_append, List.length_singleton]; omega, h11⟩, hk⟩
theorem o_rest (w0 w : World) {go gx : Nat} {ts : List S33} {a : Nat} {us : List S55} {b : Nat} (h : Inv w0 w go gx ts a us b) (k : Int) :
  Calls Try.prog 15 #[.pointer (some ⟨go, 0, none⟩), .int .i64 k] w fun e w' => ∃ ys A1 c1, ys = (ts.drop a).take k.toNat ∧ e = .returned (.slice A1 ys.length c1) ∧ ys.length ≤ c1 ∧ Kd.C k33 w' A1 ys.length ys ∧ Inv w0 w' go gx ts a us b := by
 obtain ⟨ys, hy⟩ : ∃ y_ : List S33, y_ = (ts.drop a).take k.toNat := ⟨_, rfl⟩
 have h' := h
 obtain ⟨v, vx, h1, h2, h3, h4, h5, h6, h7, h8, h9, h10, h11⟩ := h'
 obtain ⟨A, c, rfl, hc, hC⟩ := Kd.Q_reads h2
 have hd : (ts.drop a).length = ts.length - a := List.length_drop
 have hyl : ys.length = min k.toNat (ts.length - a) := by rw [hy, List.length_take, hd]
 refine (rest_c w h1 hC hc k ys (by rw [hd]; omega) ?_ ?_ (by rw [hd]; omega)).mono ?_
 ·rw [hyl, ← hd, hy]
  rw [← List.take_take, List.take_length]
 ·rw [hyl, hd]
  split <;> split <;> omega
 ·rintro e w' ⟨A1, c1, rfl, hl, hC1, hb⟩
  exact ⟨ys, A1, c1, hy, rfl, hl, hC1, h.below hb⟩
theorem x_rest (w0 w : World) {go gx : Nat} {ts : List S33} {a : Nat} {us : List S55} {b : Nat} (h : Inv w0 w go gx ts a us b) (k : Int) :
  Calls Try.prog 16 #[.pointer (some ⟨gx, 0, none⟩), .int .i64 k] w fun e w' => ∃ ys A1 c1, ys = (us.drop b).take k.toNat ∧ e = .returned (.slice A1 ys.length c1) ∧ ys.length ≤ c1 ∧ Kd.C k55 w' A1 ys.length ys ∧ Inv w0 w' go gx ts a us b ∧ Below w.heap.size w w' := by
 obtain ⟨ys, hy⟩ : ∃ y_ : List S55, y_ = (us.drop b).take k.toNat := ⟨_, rfl⟩
 have h' := h
 obtain ⟨v, vx, h1, h2, h3, h4, h5, h6, h7, h8, h9, h10, h11⟩ := h'
 have hyl : ys.length = min k.toNat (us.length - b) := by rw [hy, List.length_take, List.length_drop]
 refine (xrest_c w0 w k ys (fun _ => True) h3 h4 h5 (by omega) (by omega) (fun j hj => ?_) (fun j hj => by omega) (fun hj => by omega)).mono ?_
 ·rw [hy, List.getElem?_take_of_lt (by omega), List.getElem?_drop]
 ·rintro e w' ⟨A1, c1, rfl, hl, hC1, hb⟩
  exact ⟨ys, A1, c1, hy, rfl, hl, hC1, h.below hb, hb⟩
end Go.Proofs.Ytoagfdpgnfinhaa.So

set_option linter.unusedVariables false
set_option linter.unusedSimpArgs false
namespace Go.Proofs.Ytoagfdpgnfinhaa.Open
open Go Go.RowKit Go.Deep Go.WideShapes Go.ChangeShapes Go.Proofs.YtoagfdpgnfinhaaW.PrintWords Go.Proofs.YtoagfdpgnfinhaaW.PrintLast Go.Proofs.YtoagfdpgnfinhaaW.PrintMore
structure To (P : Program) (t : TypeId) {α : Type} (K : Kd α) (wf : α → Prop) : Prop where
 sz : P.cellsOf t = K.sz
 go : ∀ {H : Type} (enc : TypeId × Value → H) (w : World) (fuel : Nat) (cs : List Value) (d : DataW H) (ps : List MemPlace),
  DataW.trod enc P w 0 (fun _ => true) true fuel t cs = some (d, ps) → (DataW.weights P t d).all (· ≤ reachBytes) = true → ∃ x : α, K.K w x cs ∧ wf x
theorem int {P : Program} {t : TypeId} {k : IntKind} (ht : P.underlying t = some (.int k)) (hs : P.cellsOf t = 1) : To P t (Kd.int k) (fun n => (Lit.int k n).wf = true) := by
 refine ⟨hs, fun enc w fuel cs d ps h _ => ?_⟩
 obtain ⟨n, rfl, _, hw⟩ := DataW.trod_int ht h
 exact ⟨n, rfl, hw⟩
theorem bool {P : Program} {t : TypeId} (ht : P.underlying t = some .bool) (hs : P.cellsOf t = 1) : To P t Kd.bool (fun _ => True) := by
 refine ⟨hs, fun enc w fuel cs d ps h _ => ?_⟩
 obtain ⟨b, rfl, _⟩ := DataW.trod_bool ht h
 exact ⟨b, rfl, trivial⟩
theorem string {P : Program} {t : TypeId} (ht : P.underlying t = some .string) (hs : P.cellsOf t = 1) : To P t Kd.string (fun s => s.size ≤ 140737488351232) := by
 refine ⟨hs, fun enc w fuel cs d ps h hw => ?_⟩
 obtain ⟨s, rfl, hx, _⟩ := DataW.trod_string ht h
 obtain ⟨rfl, _⟩ := Prod.mk.inj hx
 refine ⟨s, rfl, ?_⟩
 simp only [DataW.weights, List.all_cons, List.all_nil, Bool.and_true, reachBytes, Array.length_toList] at hw
 exact of_decide_eq_true hw
theorem weightsAll_mem {H : Type} {P : Program} {e : TypeId} : ∀ {l : List (DataW H)} {d : DataW H}, d ∈ l → (DataW.weightsAll P e l).all (· ≤ reachBytes) = true → (DataW.weights P e d).all (· ≤ reachBytes) = true
 | [], _, h, _ => by cases h
 | a :: l, d, h, hw => by
  simp only [DataW.weightsAll, List.all_append, Bool.and_eq_true] at hw
  rcases List.mem_cons.1 h with rfl | h
  ·exact hw.1
  ·exact weightsAll_mem h hw.2
theorem add_add (a : Addr) (i j : Nat) : (a.add i).add j = a.add (i + j) := by
 unfold Addr.add
 by_cases h1 : i = 0 <;> by_cases h2 : j = 0 <;> simp [h1, h2, Nat.add_assoc]
theorem slice {P : Program} {t e : TypeId} {α : Type} {K : Kd α} {wf : α → Prop} {B : Nat} (ht : P.underlying t = some (.slice e)) (hs : P.cellsOf t = 1) (hB : P.bytesOf e = B) (he : To P e K wf) :
  To P t (Kd.slice e K) (fun l => (∀ x ∈ l, wf x) ∧ l.length * B ≤ 140737488351232) := by
 refine ⟨hs, fun {H} enc w fuel cs d ps h hw => ?_⟩
 rcases open_slice ht h with ⟨rfl, _⟩ | ⟨a, len, cap, m, n, D, Pl, rfl, _, hl, hm, hmc, hx, hel⟩
 ·exact ⟨[], ⟨none, 0, rfl, Nat.le_refl _, rfl, by simp, fun h => absurd h (by simp)⟩, by simp, by simp⟩
 ·obtain ⟨rfl, _⟩ := Prod.mk.inj hx
  simp only [if_true] at hmc
  subst hmc
  have hw1 := hw
  simp only [DataW.weights, ht, List.all_cons, List.all_append, Bool.and_eq_true, decide_eq_true_eq, List.length_map, List.length_range, hB, reachBytes] at hw1
  have hchoose : ∀ i, i < len → ∃ x : α, (∃ cs', w.cells? 0 (a.add (i * P.cellsOf e)) (P.cellsOf e) = some cs' ∧ K.K w x cs') ∧ wf x := by
   intro i hi
   obtain ⟨cs', h1, h2⟩ := hel i (by omega)
   obtain ⟨x, hx1, hx2⟩ := he.go enc w n cs' (D i) (Pl i) h2 (weightsAll_mem (List.mem_map.2 ⟨i, by simpa using hi, rfl⟩) hw1.2.1)
   exact ⟨x, ⟨cs', h1, hx1⟩, hx2⟩
  have hall : ∀ k, k ≤ len → ∃ l : List α, l.length = k ∧ ∀ i x, l[i]? = some x → (∃ cs', w.cells? 0 (a.add (i * P.cellsOf e)) (P.cellsOf e) = some cs' ∧ K.K w x cs') ∧ wf x := by
   intro k
   induction k with
   | zero => intro _; exact ⟨[], rfl, fun i x h => by simp at h⟩
   | succ k ih =>
    intro hk
    obtain ⟨l, h1, h2⟩ := ih (by omega)
    obtain ⟨x, hx⟩ := hchoose k (by omega)
    refine ⟨l ++ [x], by simp [h1], fun i y hy => ?_⟩
    by_cases hi : i < l.length
    ·exact h2 i y (by rwa [List.getElem?_append_left hi] at hy)
    ·rw [List.getElem?_append_right (by omega)] at hy
     have : i = l.length := by
      have := (List.getElem?_eq_some_iff.1 hy).1
      simp at this; omega
     subst this
     simp at hy
     subst hy
     rw [h1]; exact hx
  obtain ⟨l, h1, h2⟩ := hall len (Nat.le_refl _)
  refine ⟨l, ⟨some a, m, by rw [h1], by omega, rfl, by unfold maxLen at hm; omega, fun _ => ⟨a, rfl, fun j p hj => ?_⟩⟩, ?_, ?_⟩
  ·obtain ⟨⟨cs', g1, g2⟩, _⟩ := h2 j p hj
   obtain ⟨_, g3, g4⟩ := World.cells?_some g1
   refine ⟨cs', by rw [g3, he.sz], g2, fun i u hu => ?_⟩
   have hi : i < P.cellsOf e := by
    have := (List.getElem?_eq_some_iff.1 hu).1
    omega
   rw [← hu, ← g4 i hi, add_add, he.sz]
  ·intro x hx
   obtain ⟨i, hi, rfl⟩ := List.getElem_of_mem hx
   exact (h2 i _ (List.getElem?_eq_getElem hi)).2
  ·rw [h1]
   refine Nat.le_trans (Nat.mul_le_mul_right _ ?_) (of_decide_eq_true hw1.1)
   omega
structure Fs (P : Program) (o : Nat) (fs : List (TypeId × Nat)) {α : Type} (K : Kd α) (wf : α → Prop) : Prop where
 go : ∀ {H : Type} (enc : TypeId × Value → H) (w : World) (n : Nat) (cs : List Value) (xs : List (DataW H × List MemPlace)), cs.length = o + K.sz → xs.length = fs.length →
  (∀ (i : Nat) (f : TypeId × Nat), fs[i]? = some f → DataW.trod enc P w 0 (fun _ => true) true n f.1 ((cs.drop f.2).take (P.cellsOf f.1)) = xs[i]?) →
  (DataW.weightsEach P (fs.map (·.1)) (xs.map (·.1))).all (· ≤ reachBytes) = true → ∃ x : α, K.K w x (cs.drop o) ∧ wf x
theorem one {P : Program} {o : Nat} {t : TypeId} {α : Type} {K : Kd α} {wf : α → Prop} (h : To P t K wf) : Fs P o [(t, o)] K wf := by
 refine ⟨fun enc w n cs xs hl hx hr hw => ?_⟩
 match xs, hx with
 | [x], _ =>
  have h0 := hr 0 _ rfl
  simp only [List.getElem?_cons_zero] at h0
  rw [h.sz, List.take_of_length_le (by simp; omega)] at h0
  simp only [List.map_cons, List.map_nil, DataW.weightsEach, List.append_nil] at hw
  exact h.go enc w n _ x.1 x.2 h0 hw
theorem cons {P : Program} {o : Nat} {t : TypeId} {fs : List (TypeId × Nat)} {α β : Type} {K : Kd α} {wf : α → Prop} {L : Kd β} {wg : β → Prop} (h : To P t K wf) (hs : Fs P (o + K.sz) fs L wg) :
  Fs P o ((t, o) :: fs) (Kd.pair K L) (fun x => wf x.1 ∧ wg x.2) := by
 refine ⟨fun {H} enc w n cs xs hl hx hr hw => ?_⟩
 have hsz : (Kd.pair K L).sz = K.sz + L.sz := rfl
 match xs, hx with
 | x :: xs, hx =>
  have h0 := hr 0 _ rfl
  simp only [List.getElem?_cons_zero] at h0
  rw [h.sz] at h0
  simp only [List.map_cons, DataW.weightsEach, List.all_append, Bool.and_eq_true] at hw
  obtain ⟨a, ha, hwa⟩ := h.go enc w n _ x.1 x.2 h0 hw.1
  obtain ⟨b, hb, hwb⟩ := hs.go enc w n cs xs (by omega) (by simpa using hx) (fun i f hf => by have := hr (i + 1) f (by simpa using hf); simpa using this) hw.2
  refine ⟨(a, b), ⟨_, _, ?_, ha, hb⟩, hwa, hwb⟩
  rw [← List.drop_drop, List.take_append_drop]
theorem struct {P : Program} {t : TypeId} {fs : Array Field} {gs : List (TypeId × Nat)} {α : Type} {K : Kd α} {wf : α → Prop} (ht : P.underlying t = some (.struct fs)) (hg : fs.toList.map (fun f => (f.type, f.offset)) = gs) (hs : P.cellsOf t = K.sz) (h : Fs P 0 gs K wf) : To P t K wf := by
 refine ⟨hs, fun {H} enc w fuel cs d ps hr hw => ?_⟩
 obtain ⟨xs, n, _, hx, hl, hxl, hel⟩ := DataW.trod_struct ht hr
 obtain ⟨rfl, _⟩ := Prod.mk.inj hx
 have := h.go enc w n cs xs (by omega) (by rw [← hg]; simpa using hxl) (fun i f hf => ?_) ?_
 ·simpa using this
 ·rw [← hg] at hf
  simp only [List.getElem?_map, Option.map_eq_some_iff] at hf
  obtain ⟨g, hg1, rfl⟩ := hf
  exact hel i g (by simpa using hg1)
 ·rw [← hg]
  simp only [DataW.weights, ht] at hw
  simpa [List.map_map, Function.comp_def] using hw
theorem weightsAll_each {H : Type} (P : Program) (e : TypeId) : ∀ (l : List (DataW H)) (ts : List TypeId), ts.length = l.length → (∀ t ∈ ts, t = e) → DataW.weightsEach P ts l = DataW.weightsAll P e l
 | [], [], _, _ => rfl
 | [], _ :: _, h, _ => by simp at h
 | _ :: _, [], h, _ => by simp at h
 | d :: l, t :: ts, h, ht => by
  simp only [DataW.weightsEach, DataW.weightsAll]
  rw [ht t (by simp), weightsAll_each P e l ts (by simpa using h) (fun x hx => ht x (by simp [hx]))]
theorem array {P : Program} {t e : TypeId} {n s : Nat} {α : Type} {K : Kd α} {wf : α → Prop} (ht : P.underlying t = some (.array n e)) (he : P.cellsOf e = s) (hs : P.cellsOf t = K.sz) (h : Fs P 0 ((List.range n).map fun i => (e, i * s)) K wf) : To P t K wf := by
 refine ⟨hs, fun {H} enc w fuel cs d ps hr hw => ?_⟩
 obtain ⟨xs, m, _, hx, hl, hxl, hel⟩ := DataW.trod_array ht hr
 obtain ⟨rfl, _⟩ := Prod.mk.inj hx
 have := h.go enc w m cs xs (by omega) (by simpa using hxl) (fun i f hf => ?_) ?_
 ·simpa using this
 ·simp only [List.getElem?_map, Option.map_eq_some_iff] at hf
  obtain ⟨g, hg1, rfl⟩ := hf
  have hi : i < n := by have := (List.getElem?_eq_some_iff.1 hg1).1; simpa using this
  have hgi : g = i := by
   have := (List.getElem?_eq_some_iff.1 hg1).2
   simpa using this.symm
  subst hgi
  have := hel g hi
  rw [he] at this ⊢
  exact this
 ·simp only [DataW.weights, ht] at hw
  rw [weightsAll_each P e _ _ (by simp [hxl]) (by simp)]
  exact hw
theorem iso {P : Program} {t : TypeId} {α β : Type} {K : Kd α} {wf : α → Prop} (f : β → α) (g : α → β) (hfg : ∀ a, f (g a) = a) (h : To P t K wf) : To P t (Kd.iso K f) (fun b => wf (f b)) := by
 refine ⟨h.sz, fun {H} enc w fuel cs d ps hr hw => ?_⟩
 obtain ⟨x, h1, h2⟩ := h.go enc w fuel cs d ps hr hw
 refine ⟨g x, ?_, ?_⟩
 ·show K.K w (f (g x)) cs
  rw [hfg]; exact h1
 ·rw [hfg]; exact h2
theorem imp {P : Program} {t : TypeId} {α : Type} {K : Kd α} {wf wf' : α → Prop} (h : To P t K wf) (hi : ∀ x, wf x → wf' x) : To P t K wf' :=
 ⟨h.sz, fun enc w fuel cs d ps hr hw => by
  obtain ⟨x, h1, h2⟩ := h.go enc w fuel cs d ps hr hw
  exact ⟨x, h1, hi x h2⟩⟩
theorem at_param {P : Program} {t : TypeId} {α : Type} {K : Kd α} {wf : α → Prop} (h : To P t K wf) {H : Type} {enc : TypeId × Value → H} {w : World} {v : Value} {d : DataW H} {ps : List MemPlace} {ts : List TypeId} {ds : List (DataW H)} {j : Nat}
  (hsz : (DataW.weightsEach P ts ds).all (· ≤ reachBytes) = true) (ht : ts[j]? = some t) (hd : ds[j]? = some d) (hr : DataW.Trod enc P w 0 (fun _ => true) true t v d ps) : ∃ x : α, K.K w x v.cells.toList ∧ wf x := by
 obtain ⟨fuel, hf⟩ := hr
 refine h.go enc w fuel _ d ps hf ?_
 rw [List.all_eq_true]
 intro x hx
 exact List.all_eq_true.1 hsz x (DataW.weights_mem_each ht hd x hx)
end Go.Proofs.Ytoagfdpgnfinhaa.Open

set_option linter.unusedVariables false
namespace Go.Proofs.Ytoagfdpgnfinhaa.Q
open Go.RowKit Go.Proofs.Ytoagfdpgnfinhaa.Q Go.Proofs.YtoagfdpgnfinhaaW.PrintWords Go.Proofs.YtoagfdpgnfinhaaW.PrintLast Go.Proofs.YtoagfdpgnfinhaaW.PrintMore
open Go.Proofs.Ytoagfdpgnfinhaa
def wf28 (x : S28) : Prop := ((Lit.int .u64 x.f0).wf = true) ∧ ((Lit.int .u64 x.f1).wf = true) ∧ ((Lit.int .u64 x.f2).wf = true) ∧ ((Lit.int .u64 x.f3).wf = true)
theorem to28 : Open.To Try.prog 28 k28 wf28 := Open.imp (Open.iso (fun x : S28 => (x.f0, (x.f1, (x.f2, x.f3)))) (fun y => (⟨y.1, y.2.1, y.2.2.1, y.2.2.2⟩ : S28)) (fun _ => rfl) (Open.array (n := 4) (e := 26) (s := 1) Try.underlying28 (by kernel_rfl) (by kernel_rfl) (show Open.Fs Try.prog 0 [(26, 0), (26, 1), (26, 2), (26, 3)] _ _ from (Open.cons (Open.int Try.underlying26 (by kernel_rfl)) (Open.cons (Open.int Try.underlying26 (by kernel_rfl)) (Open.cons (Open.int Try.underlying26 (by kernel_rfl)) (Open.one (Open.int Try.underlying26 (by kernel_rfl))))))))) (fun _ h => h)
def wf30 (x : S30) : Prop := (wf28 x.f0) ∧ ((Lit.int .i64 x.f1).wf = true)
theorem to30 : Open.To Try.prog 30 k30 wf30 := Open.imp (Open.iso (fun x : S30 => (x.f0, x.f1)) (fun y => (⟨y.1, y.2⟩ : S30)) (fun _ => rfl) (Open.struct Try.underlying30 (by rfl) (by kernel_rfl) (show Open.Fs Try.prog 0 [(28, 0), (3, 4)] _ _ from (Open.cons to28 (Open.one (Open.int Try.underlying3 (by kernel_rfl))))))) (fun _ h => h)
def wf39 (x : S39) : Prop := (wf30 x.f0) ∧ (True)
theorem to39 : Open.To Try.prog 39 k39 wf39 := Open.imp (Open.iso (fun x : S39 => (x.f0, x.f1)) (fun y => (⟨y.1, y.2⟩ : S39)) (fun _ => rfl) (Open.struct Try.underlying39 (by rfl) (by kernel_rfl) (show Open.Fs Try.prog 0 [(30, 0), (4, 5)] _ _ from (Open.cons to30 (Open.one (Open.bool Try.underlying4 (by kernel_rfl))))))) (fun _ h => h)
def wf107 (x : S107) : Prop := (x.f0.size ≤ 140737488351232) ∧ (x.f1.size ≤ 140737488351232) ∧ (x.f2.size ≤ 140737488351232) ∧ (True)
theorem to107 : Open.To Try.prog 107 k107 wf107 := Open.imp (Open.iso (fun x : S107 => (x.f0, (x.f1, (x.f2, x.f3)))) (fun y => (⟨y.1, y.2.1, y.2.2.1, y.2.2.2⟩ : S107)) (fun _ => rfl) (Open.struct Try.underlying107 (by rfl) (by kernel_rfl) (show Open.Fs Try.prog 0 [(9, 0), (9, 1), (9, 2), (4, 3)] _ _ from (Open.cons (Open.string Try.underlying9 (by kernel_rfl)) (Open.cons (Open.string Try.underlying9 (by kernel_rfl)) (Open.cons (Open.string Try.underlying9 (by kernel_rfl)) (Open.one (Open.bool Try.underlying4 (by kernel_rfl))))))))) (fun _ h => h)
def wf159 (x : S159) : Prop := (wf107 x.f0) ∧ (True) ∧ ((Lit.int .u8 x.f2).wf = true)
theorem to159 : Open.To Try.prog 159 k159 wf159 := Open.imp (Open.iso (fun x : S159 => (x.f0, (x.f1, x.f2))) (fun y => (⟨y.1, y.2.1, y.2.2⟩ : S159)) (fun _ => rfl) (Open.struct Try.underlying159 (by rfl) (by kernel_rfl) (show Open.Fs Try.prog 0 [(107, 0), (4, 4), (5, 5)] _ _ from (Open.cons to107 (Open.cons (Open.bool Try.underlying4 (by kernel_rfl)) (Open.one (Open.int Try.underlying5 (by kernel_rfl)))))))) (fun _ h => h)
def wf42 (x : S42) : Prop := (wf39 x.f0) ∧ ((∀ x_ ∈ x.f1, wf159 x_) ∧ x.f1.length * 64 ≤ 140737488351232) ∧ (True)
theorem to42 : Open.To Try.prog 42 k42 wf42 := Open.imp (Open.iso (fun x : S42 => (x.f0, (x.f1, x.f2))) (fun y => (⟨y.1, y.2.1, y.2.2⟩ : S42)) (fun _ => rfl) (Open.struct Try.underlying42 (by rfl) (by kernel_rfl) (show Open.Fs Try.prog 0 [(39, 0), (40, 6), (4, 7)] _ _ from (Open.cons to39 (Open.cons (Open.slice (e := 159) (B := 64) Try.underlying40 (by kernel_rfl) (by kernel_rfl) to159) (Open.one (Open.bool Try.underlying4 (by kernel_rfl)))))))) (fun _ h => h)
def wf44 (x : S44) : Prop := ((Lit.int .u8 x.f0).wf = true) ∧ (wf42 x.f1) ∧ ((Lit.int .u64 x.f2).wf = true) ∧ ((Lit.int .i64 x.f3).wf = true)
theorem to44 : Open.To Try.prog 44 k44 wf44 := Open.imp (Open.iso (fun x : S44 => (x.f0, (x.f1, (x.f2, x.f3)))) (fun y => (⟨y.1, y.2.1, y.2.2.1, y.2.2.2⟩ : S44)) (fun _ => rfl) (Open.struct Try.underlying44 (by rfl) (by kernel_rfl) (show Open.Fs Try.prog 0 [(5, 0), (42, 1), (26, 9), (3, 10)] _ _ from (Open.cons (Open.int Try.underlying5 (by kernel_rfl)) (Open.cons to42 (Open.cons (Open.int Try.underlying26 (by kernel_rfl)) (Open.one (Open.int Try.underlying3 (by kernel_rfl))))))))) (fun _ h => h)
end Go.Proofs.Ytoagfdpgnfinhaa.Q

set_option linter.unusedVariables false
set_option linter.unusedSimpArgs false
namespace Go.Proofs.Ytoagfdpgnfinhaa.Pure
open Go.RowKit Go.Proofs.YtoagfdpgnfinhaaW.PrintWords Go.Proofs.YtoagfdpgnfinhaaW.PrintLast Go.Proofs.YtoagfdpgnfinhaaW.PrintMore
theorem ba_ext {s t : ByteArray} (h : s.data.toList = t.data.toList) : s = t := by
 cases s; cases t
 simp only [ByteArray.mk.injEq]
 exact Array.toList_inj.1 h
theorem toList_data (s : ByteArray) : s.toList = s.data.toList := by
 exact ByteArray.toList_eq s
theorem toList_iff {s t : ByteArray} : s.toList = t.toList ↔ s = t := by
 rw [toList_data, toList_data]; exact ⟨ba_ext, fun h => by rw [h]⟩
def NL (l : List Nat) : List Int := l.map fun n : Nat => (n : Int)
theorem wrap_u64 {x : Int} (h0 : 0 ≤ x) (h1 : x < 18446744073709551616) : IntKind.u64.wrap x = x := by
 simp only [IntKind.wrap_u64]; omega
theorem wrap64_id {x : Int} (h0 : -9223372036854775808 ≤ x) (h1 : x ≤ 9223372036854775807) : wrap64 x = x := by
 unfold wrap64; omega
end Go.Proofs.Ytoagfdpgnfinhaa.Pure

set_option linter.unusedVariables false
set_option linter.unusedSimpArgs false
namespace Go.Proofs.Ytoagfdpgnfinhaa.Pure
open Go.RowKit Go.Proofs.Ytoagfdpgnfinhaa.Q Go.Proofs.YtoagfdpgnfinhaaW.PrintWords Go.Proofs.YtoagfdpgnfinhaaW.PrintLast Go.Proofs.YtoagfdpgnfinhaaW.PrintMore Go.Proofs.Ytoagfdpgnfinhaa.Plain
theorem i64_of {x : Int} (h : (Lit.int .i64 x).wf = true) : -9223372036854775808 ≤ x ∧ x ≤ 9223372036854775807 := by
 have h : IntKind.i64.min ≤ x ∧ x ≤ IntKind.i64.max := by simpa only [Lit.wf, Bool.and_eq_true, decide_eq_true_eq] using h
 exact h
theorem u8_of {x : Int} (h : (Lit.int .u8 x).wf = true) : 0 ≤ x ∧ x ≤ 255 := by
 have h : IntKind.u8.min ≤ x ∧ x ≤ IntKind.u8.max := by simpa only [Lit.wf, Bool.and_eq_true, decide_eq_true_eq] using h
 exact h
theorem u64_of {x : Int} (h : (Lit.int .u64 x).wf = true) : 0 ≤ x ∧ x ≤ 18446744073709551615 := by
 have h : IntKind.u64.min ≤ x ∧ x ≤ IntKind.u64.max := by simpa only [Lit.wf, Bool.and_eq_true, decide_eq_true_eq] using h
 exact h
def own (a b c d e : Int) : Int := if e = 1 then a else if e = 2 then b else if e = 3 then c else if e = 4 then d else 0
def okS (a b c d e : Int) : Prop := (a ≤ 1152921504606846976 ∧ b ≤ 1152921504606846976 ∧ c ≤ 1152921504606846976 ∧ d ≤ 1152921504606846976) ∧ 0 < own a b c d e
theorem mark_loop (v0 v1 v2 v3 d D : Int) (k : Nat) : tenementlaw15_Mark_mark.l0 (k + 4) 0 v0 v1 v2 v3 d true 0 0 0 0 D =
  (if D = 1 then some (IntKind.u64.wrap (1 + Int.tmod v0 4), Int.tmod v1 4, Int.tmod v2 4, 0, D) else if D = 2 then some (Int.tmod v0 4, IntKind.u64.wrap (1 + Int.tmod v1 4), Int.tmod v2 4, 0, D) else
     if D = 3 then some (Int.tmod v0 4, Int.tmod v1 4, IntKind.u64.wrap (1 + Int.tmod v2 4), 0, D) else if D = 4 then some (Int.tmod v0 4, Int.tmod v1 4, Int.tmod v2 4, IntKind.u64.wrap (1 + 0), D) else none) := by
 rw [tenementlaw15_Mark_mark.l0, if_pos (by omega), if_pos rfl, show wrap64 (0 + 1) = 1 from wrap64_id (by omega) (by omega)]
 rw [tenementlaw15_Mark_mark.l0, if_pos (by omega), if_neg (by omega), if_pos rfl, show wrap64 (1 + 1) = 2 from wrap64_id (by omega) (by omega)]
 rw [tenementlaw15_Mark_mark.l0, if_pos (by omega), if_neg (by omega), if_neg (by omega), if_pos rfl, show wrap64 (2 + 1) = 3 from wrap64_id (by omega) (by omega)]
 rw [tenementlaw15_Mark_mark.l0, if_neg (by omega)]
theorem mark_own {v0 v1 v2 v3 d : Int} (h0 : (Lit.int .u64 v0).wf = true) (h1 : (Lit.int .u64 v1).wf = true) (h2 : (Lit.int .u64 v2).wf = true) {k : Nat} (hk : 4 ≤ k) :
  ∃ n0 n1 n2 n3 dc : Nat, tenementlaw15_Mark_mark.f k v0 v1 v2 v3 d true = some ((n0 : Int), (n1 : Int), (n2 : Int), (n3 : Int), (dc : Int)) ∧ (n0 ≤ 4 ∧ n1 ≤ 4 ∧ n2 ≤ 4 ∧ n3 ≤ 4) ∧ 1 ≤ dc ∧ dc ≤ 3 ∧ okS n0 n1 n2 n3 dc := by
 have h0 := u64_of h0
 have h1 := u64_of h1
 have h2 := u64_of h2
 obtain ⟨k, rfl⟩ : ∃ m, k = m + 4 := ⟨k - 4, by omega⟩
 unfold tenementlaw15_Mark_mark.f
 rw [if_pos rfl]
 have hw : 0 ≤ IntKind.u64.wrap d := by rw [IntKind.wrap_u64]; omega
 have hD : wrap64 (1 + (wrap64 (Int.tmod (IntKind.u64.wrap d) 3))) = 1 + (IntKind.u64.wrap d) % 3 := by
  rw [Int.tmod_eq_emod_of_nonneg hw, wrap64_id (x := (IntKind.u64.wrap d) % 3) (by omega) (by omega), wrap64_id (by omega) (by omega)]
 rw [hD, mark_loop, Int.tmod_eq_emod_of_nonneg h0.1, Int.tmod_eq_emod_of_nonneg h1.1, Int.tmod_eq_emod_of_nonneg h2.1, wrap_u64 (x := 1 + v0 % 4) (by omega) (by omega), wrap_u64 (x := 1 + v1 % 4) (by omega) (by omega), wrap_u64 (x := 1 + v2 % 4) (by omega) (by omega)]
 generalize IntKind.u64.wrap d = q at hw ⊢
 clear hD
 have c : q % 3 = 0 ∨ q % 3 = 1 ∨ q % 3 = 2 := by omega
 rcases c with c | c | c
 ·rw [c, if_pos (by omega)]
  refine ⟨(1 + v0 % 4).toNat, (v1 % 4).toNat, (v2 % 4).toNat, 0, 1, by rw [Int.toNat_of_nonneg (by omega), Int.toNat_of_nonneg (by omega), Int.toNat_of_nonneg (by omega)]; rfl, by omega, by omega, by omega, by omega, ?_⟩
  unfold own
  rw [if_pos (by omega)]
  omega
 ·rw [c, if_neg (by omega), if_pos (by omega)]
  refine ⟨(v0 % 4).toNat, (1 + v1 % 4).toNat, (v2 % 4).toNat, 0, 2, by rw [Int.toNat_of_nonneg (by omega), Int.toNat_of_nonneg (by omega), Int.toNat_of_nonneg (by omega)]; rfl, by omega, by omega, by omega, by omega, ?_⟩
  unfold own
  rw [if_neg (by omega), if_pos (by omega)]
  omega
 ·rw [c, if_neg (by omega), if_neg (by omega), if_pos (by omega)]
  refine ⟨(v0 % 4).toNat, (v1 % 4).toNat, (1 + v2 % 4).toNat, 0, 3, by rw [Int.toNat_of_nonneg (by omega), Int.toNat_of_nonneg (by omega), Int.toNat_of_nonneg (by omega)]; rfl, by omega, by omega, by omega, by omega, ?_⟩
  unfold own
  rw [if_neg (by omega), if_neg (by omega), if_pos (by omega)]
  omega
theorem mark_any {v0 v1 v2 v3 d : Int} (h0 : (Lit.int .u64 v0).wf = true) (h1 : (Lit.int .u64 v1).wf = true) (h2 : (Lit.int .u64 v2).wf = true) (h3 : (Lit.int .u64 v3).wf = true) (h4 : (Lit.int .i64 d).wf = true) (o : Bool) {k : Nat} (hk : 4 ≤ k) :
  ∃ (n0 n1 n2 n3 : Nat) (e : Int), tenementlaw15_Mark_mark.f k v0 v1 v2 v3 d o = some ((n0 : Int), (n1 : Int), (n2 : Int), (n3 : Int), e) ∧ (n0 < 18446744073709551616 ∧ n1 < 18446744073709551616 ∧ n2 < 18446744073709551616 ∧ n3 < 18446744073709551616) ∧ -9223372036854775808 ≤ e ∧ e ≤ 9223372036854775807 := by
 cases o with
 | true =>
  obtain ⟨n0, n1, n2, n3, dc, e, hn, l1, l3, _⟩ := mark_own (v3 := v3) (d := d) h0 h1 h2 hk
  exact ⟨n0, n1, n2, n3, dc, e, by omega, by omega, by omega⟩
 | false =>
  have h0 := u64_of h0
  have h1 := u64_of h1
  have h2 := u64_of h2
  have h3 := u64_of h3
  have h4 := i64_of h4
  unfold tenementlaw15_Mark_mark.f
  rw [if_neg (by simp)]
  exact ⟨v0.toNat, v1.toNat, v2.toNat, v3.toNat, d, by rw [Int.toNat_of_nonneg h0.1, Int.toNat_of_nonneg h1.1, Int.toNat_of_nonneg h2.1, Int.toNat_of_nonneg h3.1], by omega, h4.1, h4.2⟩
def vs (n : Nat) : ByteArray := strOfNums (NL (vary n))


def nb (n k : Nat) : ByteArray := strOfNums (NL (be k n))
theorem numL_be (n k : Nat) : numL (n : Int) k = NL (be k n) := by
 unfold numL NL
 have h : be k n = (List.range k).map fun j => n / 256 ^ (k - 1 - j) % 256 := by
  induction k with
  | zero => rfl
  | succ k ih =>
   rw [List.range_succ_eq_map, List.map_cons, List.map_map]
   simp only [be]
   congr 1
   rw [ih]
   apply List.map_congr_left
   intro j hj
   have := List.mem_range.1 hj
   simp only [Function.comp]
   rw [show k - 1 - j = k + 1 - 1 - (j + 1) by omega]
 rw [h, List.map_map]
 apply List.map_congr_left
 intro j hj
 simp only [Function.comp, Nat.pow_mul, Int.natCast_emod, Int.natCast_ediv]
 rfl
theorem Number_f (n : Nat) (k : Int) (h1 : 1 ≤ k) (h8 : k ≤ 8) : pack_Number.f (n : Int) k = some (nb n k.toNat) := by
 unfold pack_Number.f
 rw [if_neg (by omega), if_neg (by omega), numL_be]; rfl
theorem Number_none (x : Int) (k : Int) (h : k < 1 ∨ 8 < k) : pack_Number.f x k = some ⟨#[]⟩ := by
 unfold pack_Number.f
 by_cases h1 : k < 1
 ·rw [if_pos h1]
 ·rw [if_neg h1, if_pos (by omega)]

end Go.Proofs.Ytoagfdpgnfinhaa.Pure

namespace Go.Proofs.Ytoagfdpgnfinhaa.Q
open Go.RowKit Go.Proofs.YtoagfdpgnfinhaaW.PrintWords Go.Proofs.YtoagfdpgnfinhaaW.PrintLast Go.Proofs.YtoagfdpgnfinhaaW.PrintMore
attribute [local go_sem] max2_int min2_int max_two min_two max_three min_three max_four min_four   -- for this text's walks alone
set_option linter.unusedVariables false
set_option linter.unusedSimpArgs false
def tenementref02_Vary.l0 : Nat → Int → List Int → Option (ByteArray)
 | 0, _, _ => none
 | k + 1, x0, x3 => if x0 ≥ 128 then (if x3.length < 140737488355328 then (tenementref02_Vary.l0 k (IntKind.u64.wrap (Int.tdiv x0 128)) (x3 ++ [(IntKind.u64.wrap ((Int.tmod x0 128) + 128)) % 256])) else (none)) else (if x3.length < 140737488355328 then (some (strOfNums (x3 ++ [(x0) % 256]))) else (none))
def tenementref02_Vary.f (k : Nat) (a0 : Int) : Option (ByteArray) := tenementref02_Vary.l0 k a0 ([] : List Int)
set_option maxHeartbeats 8000000 in
set_option maxRecDepth 100000 in
theorem tenementref02_Vary.calls (k : Nat) (a0 : Int) (r : ByteArray) (w : World) (h : tenementref02_Vary.f k a0 = some r) :
  Calls Try.prog 65 #[.int .u64 a0] w fun e w' => e = .returned (.string r) ∧ Below w.heap.size w w' := by
 have HB := Aside0.mk (Below.refl w.heap.size w)
 have H : (tenementref02_Vary.l0 k a0 ([] : List Int)) = some r := h
 clear h
 have H' := Aside0.mk H
 clear H
 go_enter Try.func65, Try.ntmps65
 go_wp2
 go_loopg [0, 3] k (fun kq v0 v3 w' => ∃ (x0_1 : Int) (x3_1 : List Int), v0 = .int .u64 x0_1 ∧ Aside0 (tenementref02_Vary.l0 kq x0_1 x3_1 = some r) ∧ Aside0 (kq ≤ k) ∧ Aside0 (Kd.R (Kd.int .u8) 5 w' w.heap.size (fun _ => True) v3 x3_1) ∧ Aside0 (Below w.heap.size w w'))
 case atStart => exact ⟨(a0), (([] : List Int)), (by first | rfl | (simp; done) | (simp [*]; done)), H', ⟨Nat.le_refl _⟩, ⟨by first | exact Kd.R_nil _ _ _ _ _ | exact Kd.N_nil _ _ _ _ _ | exact Kd.V_nil _ _ _ _ _ | exact Kd.Q_nil _ _ _ _ _ | exact Kd.S_nil _ _ _ _ _⟩, ⟨Ky_ HB⟩⟩
 case round =>
  clear H'
  obtain ⟨x0_1, x3_1, rfl, HA, HK1, HO_3, HB⟩ := hrel
  cases gk with
  | zero => exact absurd HA.out (by simp [tenementref02_Vary.l0])
  | succ k1 =>
   have H := HA.out
   clear HA
   simp only [tenementref02_Vary.l0] at H
   by_cases c2 : x0_1 ≥ 128
   rotate_left
   ·rw [if_neg c2] at H
    have c2b0 : decide (128 ≤ x0_1) = false := decide_eq_false c2
    clear c2
    by_cases c5 : x3_1.length < 140737488355328
    rotate_left
    ·rw [if_neg c5] at H
     exact absurd H (by simp)
    rw [if_pos c5] at H
    have LMc5 := Aside0.mk c5
    clear c5
    obtain ⟨y387, hy387⟩ : ∃ y_ : List Int, y_ = (x3_1 ++ [(x0_1) % 256]) := ⟨_, rfl⟩
    replace H : (some (strOfNums y387)) = some r := by first | (rw [hy387]; with_reducible exact H) | (have H2_ := (Option.bind_some _ _).symm.trans H; rw [hy387]; with_reducible exact H2_) | (have H2_ := (Option.bind_some _ _).symm.trans H; with_reducible exact H2_) | with_reducible exact H | (rw [hy387]; exact H) | exact H
    have Ny387 := Aside0.mk hy387
    clear hy387
    obtain rfl := Option.some.inj H
    go_wp2_with (first | ((with_reducible refine gate_builtin (b := .append) (xs := #[.tmp 15, .tmp 18]) rfl ?_); at_builtin; refine Kd.R_append (Kd.int .u8) (w0 := w) w.heap.size rfl (.tmp 15) (.tmp 18) 91 5 (.int .u8 0) 1 rfl Try.underlying91 info5 rfl (by decide) (by omega) u3 x3_1 ((x0_1) % 256) [.int .u8 ((x0_1) % 256)] (fun _ => True) (fun _ => False) rfl rfl ?aP (fun _ hk => hk.elim) ?aF ?aO ?aB ?aS ?aL ?_; (case aP => exact rfl); (case aB => exact (Ky_ HB)); (case aF => exact (fun _ _ => trivial)); (case aO => exact (Ku_ HO_3)); (case aS => exact (below_size (Ky_ HB))); (case aL => have := LMc5.out; omega); intro v388 w6 ho hb hg hat; rw [← Ny387.out] at ho; have HO389 := Aside0.mk (ho); replace HB := Aside0.mk (hb); clear HO_3; clear ho hb hg hat; have hcv7 := own_string (P := Try.prog) Try.underlying91 Try.underlying5 Try.underlying9 (Kd.own_of_R HO389.out)))
    go_ret
    exact ⟨Kh_, Ky_ HB⟩
   rw [if_pos c2] at H
   have c2b0 : decide (128 ≤ x0_1) = true := decide_eq_true c2
   clear c2
   by_cases c3 : x3_1.length < 140737488355328
   rotate_left
   ·rw [if_neg c3] at H
    exact absurd H (by simp)
   rw [if_pos c3] at H
   have LMc3 := Aside0.mk c3
   clear c3
   obtain ⟨y384, hy384⟩ : ∃ y_ : List Int, y_ = (x3_1 ++ [(IntKind.u64.wrap ((Int.tmod x0_1 128) + 128)) % 256]) := ⟨_, rfl⟩
   replace H : (tenementref02_Vary.l0 k1 (IntKind.u64.wrap (Int.tdiv x0_1 128)) y384) = some r := by first | (rw [hy384]; with_reducible exact H) | (have H2_ := (Option.bind_some _ _).symm.trans H; rw [hy384]; with_reducible exact H2_) | (have H2_ := (Option.bind_some _ _).symm.trans H; with_reducible exact H2_) | with_reducible exact H | (rw [hy384]; exact H) | exact H
   have Ny384 := Aside0.mk hy384
   clear hy384
   have H' := Aside0.mk H
   clear H
   go_wp2_with (first | ((with_reducible refine gate_builtin (b := .append) (xs := #[.tmp 6, .tmp 11]) rfl ?_); at_builtin; refine Kd.R_append (Kd.int .u8) (w0 := w) w.heap.size rfl (.tmp 6) (.tmp 11) 91 5 (.int .u8 0) 1 rfl Try.underlying91 info5 rfl (by decide) (by omega) u3 x3_1 ((IntKind.u64.wrap ((Int.tmod x0_1 128) + 128)) % 256) [.int .u8 ((IntKind.u64.wrap ((Int.tmod x0_1 128) + 128)) % 256)] (fun _ => True) (fun _ => False) rfl rfl ?aP (fun _ hk => hk.elim) ?aF ?aO ?aB ?aS ?aL ?_; (case aP => exact rfl); (case aB => exact (Ky_ HB)); (case aF => exact (fun _ _ => trivial)); (case aO => exact (Ku_ HO_3)); (case aS => exact (below_size (Ky_ HB))); (case aL => have := LMc3.out; omega); intro v385 w4 ho hb hg hat; rw [← Ny384.out] at ho; have HO386 := Aside0.mk (ho); replace HB := Aside0.mk (hb); clear HO_3; clear ho hb hg hat))
   go_roundg k1
   case measure => have := HK1.out; omega
   case rel => exact ⟨(IntKind.u64.wrap (Int.tdiv x0_1 128)), (y384), (by first | rfl | (simp; done) | (simp [*]; done)), H', ⟨by have := HK1.out; omega⟩, ⟨by (with_reducible repeat (first | apply Kd.R_alloc | apply Kd.R_drewN | apply Kd.R_drew)); exact HO386.out⟩, ⟨Ky_ HB⟩⟩
end Go.Proofs.Ytoagfdpgnfinhaa.Q

set_option linter.unusedVariables false
set_option linter.unusedSimpArgs false
namespace Go.Proofs.Ytoagfdpgnfinhaa.Pure
open Go.RowKit Go.Proofs.Ytoagfdpgnfinhaa.Q Go.Proofs.YtoagfdpgnfinhaaW.PrintWords Go.Proofs.YtoagfdpgnfinhaaW.PrintLast Go.Proofs.YtoagfdpgnfinhaaW.PrintMore Go.Proofs.Ytoagfdpgnfinhaa.Plain

end Go.Proofs.Ytoagfdpgnfinhaa.Pure

namespace Go.Proofs.Ytoagfdpgnfinhaa.Q
open Go.RowKit Go.Proofs.YtoagfdpgnfinhaaW.PrintWords Go.Proofs.YtoagfdpgnfinhaaW.PrintLast Go.Proofs.YtoagfdpgnfinhaaW.PrintMore
attribute [local go_sem] max2_int min2_int max_two min_two max_three min_three max_four min_four   -- for this text's walks alone
set_option linter.unusedVariables false
set_option linter.unusedSimpArgs false
def tenementref02_Text.f (k : Nat) (a0 : ByteArray) : Option (ByteArray) := if a0.size ≤ 9223372036854775807 then ((tenementref02_Vary.f k (a0.size : Int)).bind fun t390 => (if t390.size + a0.size ≤ 9223372036854775807 then (some (t390 ++ a0)) else (none))) else (none)
set_option maxHeartbeats 8000000 in
set_option maxRecDepth 100000 in
theorem tenementref02_Text.calls (k : Nat) (a0 : ByteArray) (r : ByteArray) (w : World) (h : tenementref02_Text.f k a0 = some r) :
  Calls Try.prog 67 #[.string a0] w fun e w' => e = .returned (.string r) ∧ Below w.heap.size w w' := by
 have HB := Aside0.mk (Below.refl w.heap.size w)
 have H : (if a0.size ≤ 9223372036854775807 then ((tenementref02_Vary.f k (a0.size : Int)).bind fun t390 => (if t390.size + a0.size ≤ 9223372036854775807 then (some (t390 ++ a0)) else (none))) else (none)) = some r := h
 (try (have Hs_ := H; simp only [ByteArray.size_append, Int.natCast_add] at Hs_))
 clear h
 by_cases c2 : a0.size ≤ 9223372036854775807
 rotate_left
 ·rw [if_neg c2] at H
  exact absurd H (by simp)
 rw [if_pos c2] at H
 have c2b0 := eq_true c2
 have c2b1 : decide (a0.size ≤ 9223372036854775807) = true := decide_eq_true c2
 try have c2b2 : (9223372036854775807 < a0.size) = False := eq_false (Nat.not_lt.2 c2)
 replace H := Option.bind_eq_some_iff.mp H
 obtain ⟨t390, A30, H⟩ := H
 replace H : (if t390.size + a0.size ≤ 9223372036854775807 then (some (t390 ++ a0)) else (none)) = some r := H
 have A3 := Aside0.mk A30
 clear A30
 by_cases c4 : t390.size + a0.size ≤ 9223372036854775807
 rotate_left
 ·rw [if_neg c4] at H
  exact absurd H (by simp)
 rw [if_pos c4] at H
 have c4b0 := eq_true c4
 have c4b1 : decide (t390.size + a0.size ≤ 9223372036854775807) = true := decide_eq_true c4
 try have c4b2 : (9223372036854775807 < t390.size + a0.size) = False := eq_false (Nat.not_lt.2 c4)
 obtain rfl := Option.some.inj H
 go_enter Try.func67, Try.ntmps67
 go_wp2_with (first | ((with_reducible refine gate_callee (f := 65) rfl ?_); refine Kg_ (some 6) rfl rfl Try.func65 (by kernel_rfl) rfl #[.int .u64 (a0.size : Int)] rfl ?_; (with_reducible refine (tenementref02_Vary.calls k (a0.size : Int) t390 _ A3.out).mono ?_); rintro e w5 ⟨rfl, hb⟩; refine ⟨_, rfl, ?_⟩; replace HB := Ks_ HB hb; (try clear hb); (try clear hb2); (try clear hk); (try clear hi)))
 go_ret
 exact ⟨Kh_, Ky_ HB⟩
end Go.Proofs.Ytoagfdpgnfinhaa.Q

set_option linter.unusedVariables false
set_option linter.unusedSimpArgs false
namespace Go.Proofs.Ytoagfdpgnfinhaa.Pure
open Go.RowKit Go.Proofs.Ytoagfdpgnfinhaa.Q Go.Proofs.YtoagfdpgnfinhaaW.PrintWords Go.Proofs.YtoagfdpgnfinhaaW.PrintLast Go.Proofs.YtoagfdpgnfinhaaW.PrintMore Go.Proofs.Ytoagfdpgnfinhaa.Plain

end Go.Proofs.Ytoagfdpgnfinhaa.Pure

namespace Go.Proofs.Ytoagfdpgnfinhaa.Q
open Go.RowKit Go.Proofs.YtoagfdpgnfinhaaW.PrintWords Go.Proofs.YtoagfdpgnfinhaaW.PrintLast Go.Proofs.YtoagfdpgnfinhaaW.PrintMore
attribute [local go_sem] max2_int min2_int max_two min_two max_three min_three max_four min_four   -- for this text's walks alone
set_option linter.unusedVariables false
set_option linter.unusedSimpArgs false
mutual
def tenementref02_Number.j0 : Nat → Int → Int → Bool → Option (ByteArray)
 | 0, _, _, _ => none
 | k + 1, x0, x1, x12 => if x12 = true then (some (⟨#[]⟩ : ByteArray)) else (tenementref02_Number.l0 k x0 ([] : List Int) (wrap64 (x1 - 1)))
def tenementref02_Number.l0 : Nat → Int → List Int → Int → Option (ByteArray)
 | 0, _, _, _ => none
 | k + 1, x0, x5, x6 => if x6 ≥ 0 then (if 0 ≤ (wrap64 (8 * x6)) then (if x5.length < 140737488355328 then (tenementref02_Number.l0 k x0 (x5 ++ [(shr .u64 x0 (wrap64 (8 * x6))) % 256]) (wrap64 (x6 - 1))) else (none)) else (none)) else (some (strOfNums x5))
end
def tenementref02_Number.f (k : Nat) (a0 : Int) (a1 : Int) : Option (ByteArray) := if a1 < 1 then (tenementref02_Number.j0 k a0 a1 true) else (tenementref02_Number.j0 k a0 a1 (decide (a1 > 8)))
set_option maxHeartbeats 8000000 in
set_option maxRecDepth 100000 in
theorem tenementref02_Number.calls (k : Nat) (a0 : Int) (a1 : Int) (r : ByteArray) (w : World) (h : tenementref02_Number.f k a0 a1 = some r) :
  Calls Try.prog 64 #[.int .u64 a0, .int .i64 a1] w fun e w' => e = .returned (.string r) ∧ Below w.heap.size w w' := by
 have HB := Aside0.mk (Below.refl w.heap.size w)
 have H : (if a1 < 1 then (tenementref02_Number.j0 k a0 a1 true) else (tenementref02_Number.j0 k a0 a1 (decide (a1 > 8)))) = some r := h
 clear h
 have HC3 := Aside0.mk H
 clear H
 go_enter Try.func64, Try.ntmps64
 go_upto_region 1 with (fail)
 go_cut [12] (fun v12 wc => ∃ (kq : Nat) (x12_2 : Bool), v12 = .bool x12_2 ∧ Aside0 (tenementref02_Number.j0 kq a0 a1 x12_2 = some r) ∧ Aside0 (kq ≤ k) ∧ Aside0 (Below w.heap.size w wc))
 case first =>
  have H := HC3.out
  clear HC3
  by_cases c4 : a1 < 1
  ·rw [if_pos c4] at H
   have c4b0 : decide (a1 < 1) = true := decide_eq_true c4
   clear c4
   (first | rw [c4b0] | (simp only [i64_w, i32_w]; rw [c4b0]) | skip)
   have H' := Aside0.mk H
   clear H
   go_wp2
   go_meet
   case rel => exact ⟨_, (true), (by first | rfl | (simp; done) | (simp [*]; done)), H', ⟨by first | omega | exact Nat.le_refl _⟩, ⟨Ky_ HB⟩⟩
  rw [if_neg c4] at H
  have c4b0 : decide (a1 < 1) = false := decide_eq_false c4
  clear c4
  (first | rw [c4b0] | (simp only [i64_w, i32_w]; rw [c4b0]) | skip)
  have H' := Aside0.mk H
  clear H
  go_wp2
  go_meet
  case rel => exact ⟨_, (decide (a1 > 8)), (by first | rfl | (simp; done) | (simp [*]; done)), H', ⟨by first | omega | exact Nat.le_refl _⟩, ⟨Ky_ HB⟩⟩
 case rest =>
  clear HC3
  try clear p2
  try clear c4
  try clear c4b0
  obtain ⟨kq, x12_2, rfl, HA, HJ2, HB⟩ := hcut
  cases kq with
  | zero => exact absurd HA.out (by simp [tenementref02_Number.j0])
  | succ kj2 =>
   have H := HA.out
   clear HA
   simp only [tenementref02_Number.j0] at H
   by_cases c5 : x12_2 = true
   ·subst c5
    have H1 : (some (⟨#[]⟩ : ByteArray)) = some r := by rw [if_pos rfl] at H; exact H
    clear H
    have H := H1
    clear H1
    obtain rfl := Option.some.inj H
    go_wp2
    go_ret
    exact ⟨Kh_, Ky_ HB⟩
   replace c5 := Bool.eq_false_iff.mpr c5
   subst c5
   have H1 : (tenementref02_Number.l0 kj2 a0 ([] : List Int) (wrap64 (a1 - 1))) = some r := by rw [if_neg (show ¬ (false = true) by decide)] at H; exact H
   clear H
   have H := H1
   clear H1
   have H' := Aside0.mk H
   clear H
   go_wp2
   go_loopg [5, 6] kj2 (fun kq v5 v6 w' => ∃ (x5_2 : List Int) (x6_2 : Int), v6 = .int .i64 x6_2 ∧ Aside0 (tenementref02_Number.l0 kq a0 x5_2 x6_2 = some r) ∧ Aside0 (kq ≤ kj2) ∧ Aside0 (Kd.R (Kd.int .u8) 5 w' w.heap.size (fun _ => True) v5 x5_2) ∧ Aside0 (Below w.heap.size w w'))
   case atStart => exact ⟨(([] : List Int)), (wrap64 (a1 - 1)), (by first | rfl | (simp; done) | (simp [*]; done)), H', ⟨Nat.le_refl _⟩, ⟨by first | exact Kd.R_nil _ _ _ _ _ | exact Kd.N_nil _ _ _ _ _ | exact Kd.V_nil _ _ _ _ _ | exact Kd.Q_nil _ _ _ _ _ | exact Kd.S_nil _ _ _ _ _⟩, ⟨Ky_ HB⟩⟩
   case round =>
    clear H'
    try clear p2
    try clear c4
    try clear c4b0
    try clear c5
    try clear p2
    obtain ⟨x5_2, x6_2, rfl, HA, HK2, HO_5, HB⟩ := hrel
    cases gk with
    | zero => exact absurd HA.out (by simp [tenementref02_Number.l0])
    | succ k2 =>
     have H := HA.out
     clear HA
     simp only [tenementref02_Number.l0] at H
     by_cases c6 : x6_2 ≥ 0
     rotate_left
     ·rw [if_neg c6] at H
      have c6b0 : decide (0 ≤ x6_2) = false := decide_eq_false c6
      clear c6
      obtain rfl := Option.some.inj H
      have hcv12 := own_string (P := Try.prog) Try.underlying91 Try.underlying5 Try.underlying9 (Kd.own_of_R HO_5.out)
      go_wp2
      go_ret
      exact ⟨Kh_, Ky_ HB⟩
     rw [if_pos c6] at H
     have c6b0 : decide (0 ≤ x6_2) = true := decide_eq_true c6
     clear c6
     obtain ⟨ji7, hji7⟩ : ∃ j_ : Int, (wrap64 (8 * x6_2)) = j_ := ⟨_, rfl⟩
     replace H : (if 0 ≤ (ji7) then (if x5_2.length < 140737488355328 then (tenementref02_Number.l0 k2 a0 (x5_2 ++ [(shr .u64 a0 (ji7)) % 256]) (wrap64 (x6_2 - 1))) else (none)) else (none)) = some r := by first | (rw [hji7] at H; exact H) | (simp only [hji7] at H ⊢; exact H)
     have hji7w : (IntKind.i64.wrap (8 * x6_2)) = ji7 := (i64_w _).trans hji7
     by_cases c8 : 0 ≤ (ji7)
     rotate_left
     ·rw [if_neg c8] at H
      exact absurd H (by simp)
     rw [if_pos c8] at H
     have c8b0 := eq_true c8
     have c8b1 : decide (0 ≤ (ji7)) = true := decide_eq_true c8
     clear c8
     obtain ⟨ji9, hji9⟩ : ∃ j_ : Int, (shr .u64 a0 (ji7)) = j_ := ⟨_, rfl⟩
     replace H : (if x5_2.length < 140737488355328 then (tenementref02_Number.l0 k2 a0 (x5_2 ++ [(ji9) % 256]) (wrap64 (x6_2 - 1))) else (none)) = some r := by first | (rw [hji9] at H; exact H) | (simp only [hji9] at H ⊢; exact H)
     have hji9_ : (a0 / 2 ^ min (ji7).toNat 64) = ji9 := hji9
     have hji9z : (ji7) ≤ 64 → (a0 / 2 ^ (ji7).toNat) = ji9 := shr_small hji9
     by_cases c10 : x5_2.length < 140737488355328
     rotate_left
     ·rw [if_neg c10] at H
      exact absurd H (by simp)
     rw [if_pos c10] at H
     have LMc10 := Aside0.mk c10
     clear c10
     obtain ⟨y381, hy381⟩ : ∃ y_ : List Int, y_ = (x5_2 ++ [(ji9) % 256]) := ⟨_, rfl⟩
     replace H : (tenementref02_Number.l0 k2 a0 y381 (wrap64 (x6_2 - 1))) = some r := by first | (rw [hy381]; with_reducible exact H) | (have H2_ := (Option.bind_some _ _).symm.trans H; rw [hy381]; with_reducible exact H2_) | (have H2_ := (Option.bind_some _ _).symm.trans H; with_reducible exact H2_) | with_reducible exact H | (rw [hy381]; exact H) | exact H
     have Ny381 := Aside0.mk hy381
     clear hy381
     have H' := Aside0.mk H
     clear H
     go_wp2_with (first | ((with_reducible refine gate_builtin (b := .append) (xs := #[.tmp 19, .tmp 25]) rfl ?_); at_builtin; refine Kd.R_append (Kd.int .u8) (w0 := w) w.heap.size rfl (.tmp 19) (.tmp 25) 91 5 (.int .u8 0) 1 rfl Try.underlying91 info5 rfl (by decide) (by omega) u5 x5_2 ((ji9) % 256) [.int .u8 ((ji9) % 256)] (fun _ => True) (fun _ => False) rfl rfl ?aP (fun _ hk => hk.elim) ?aF ?aO ?aB ?aS ?aL ?_; (case aP => exact rfl); (case aB => exact (Ky_ HB)); (case aF => exact (fun _ _ => trivial)); (case aO => exact (Ku_ HO_5)); (case aS => exact (below_size (Ky_ HB))); (case aL => have := LMc10.out; omega); intro v382 w11 ho hb hg hat; rw [← Ny381.out] at ho; have HO383 := Aside0.mk (ho); replace HB := Aside0.mk (hb); clear HO_5; clear ho hb hg hat))
     go_roundg k2
     case measure => have := HJ2.out; have := HK2.out; omega
     case rel => exact ⟨(y381), (wrap64 (x6_2 - 1)), (by first | rfl | (simp; done) | (simp [*]; done)), H', ⟨by have := HJ2.out; have := HK2.out; omega⟩, ⟨by (with_reducible repeat (first | apply Kd.R_alloc | apply Kd.R_drewN | apply Kd.R_drew)); exact HO383.out⟩, ⟨Ky_ HB⟩⟩
end Go.Proofs.Ytoagfdpgnfinhaa.Q
