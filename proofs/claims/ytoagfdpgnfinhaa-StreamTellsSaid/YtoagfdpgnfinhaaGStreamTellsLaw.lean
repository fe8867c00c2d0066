import Derived.Test.YtoagfdpgnfinhaaRows
import Derived.Test.YtoagfdpgnfinhaaGStreamTells14
import Derived.Test.YtoagfdpgnfinhaaGStreamTells15
import Derived.WalkKit
import Derived.ProofKit
import Derived.OpenShut
import Derived.ShutString
import Derived.ChangeOld
import Derived.Below
import Derived.SizedLaws
namespace Go.Proofs.Ytoagfdpgnfinhaa.streamTells
open Go.ChangeShapes Go.WideShapes Go.ChangeAt Go.RowKit
open Go.ChangeMaps (open_string shut_string)
open Go.Proofs.YtoagfdpgnfinhaaW.PrintWords
set_option linter.unusedVariables false
theorem own : ownKnob Try.prog.godebug = none := by kernel_rfl
theorem laidOut : laidOutB Try.prog = true := by kernel_rfl
set_option maxRecDepth 100000 in
theorem lifted (os : Os) (started : os.Started) (H : Type) (enc : TypeId × Value → H) :
  ReturnsInHanded {} Try.checked os 4 .any (Rows.streamTellsSpec.pre6 enc Try.prog Try.f4 Rows.streamTellsRow.domain false) (Rows.streamTellsSpec.post enc Try.prog Try.f4 false true false false) := by
 refine returnsInHanded_of_change_sized (C := Try.checked) own started (by kernel_rfl) Try.func4
  (ChangeSpec.witness6 (enc := enc) (C := Try.checked) false ⟨#[], #[.agg #[.int .u64 0, .int .u64 0, .int .u64 0, .int .u64 0, .bool false], .agg #[.int .u64 0, .int .u64 0, .int .u64 0, .int .u64 0, .int .i64 0, .bool false], .agg #[.int .i64 0, .int .i64 0, .int .u64 0, .int .u64 0, .int .u64 0, .int .u64 0, .int .u64 0, .int .i64 0, .bool false, .slice none 0 0, .bool false, .bool false]], []⟩ 12 (by kernel_rfl) (by kernel_rfl) (by kernel_rfl) (by kernel_rfl)) ?_
 intro W base args ds gs before hval0 hW hcnd hsz0 _
 have hsz : (DataW.weightsEach Try.prog (Try.f4.params.toList ++ Rows.streamTellsSpec.plain.varTypes Try.prog) (ds ++ gs)).all (· ≤ reachBytes) = true := hsz0
 have hval : ∀ (j : Nat) t v, Try.f4.params[j]? = some t → args[j]? = some v → Value.okWide Try.prog W .any base t v := hval0
 have hW' := hW
 obtain ⟨p, q, hA0, hV, rfl, hfz, hnd⟩ := hW
 have hA : DataW.TrodAll enc Try.prog W 0 (fun _ => true) true Try.f4.params.toList args.toList ds p := hA0
 rw [Try.params4] at hA hval hsz
 obtain ⟨v0, vs0, d0, ds0, p0, q0, hargs, rfl, rfl, h0, r0⟩ := trodAll_cons hA
 obtain ⟨v1, vs1, d1, ds1, p1, q1, rfl, rfl, rfl, h1, r1⟩ := trodAll_cons r0
 obtain ⟨v2, vs2, d2, ds2, p2, q2, rfl, rfl, rfl, h2, r2⟩ := trodAll_cons r1
 obtain ⟨rfl, rfl, rfl⟩ := trodAll_nil r2
 obtain rfl : args = #[v0, v1, v2] := by cases args; simp_all
 obtain ⟨rfl, rfl⟩ := trodVars_none hV
 have k0 := h0
 have lt0 : ∀ x ∈ p0, x.block < W.heap.size := by obtain ⟨m, hm⟩ := k0; exact DataW.trod_lt m _ _ _ hm
 obtain ⟨x0, hK0, wf0⟩ := Open.at_param Q.to63 hsz (j := 0) (t := 63) rfl rfl h0
 obtain ⟨cs0, rfl, _⟩ := okWide_struct Try.underlying63 (hval 0 63 v0 rfl rfl)
 have hO0 := Q.k63_open hK0
 have hcs0 := hO0
 obtain rfl : cs0 = #[.int .u64 x0.f0.f0, .int .u64 x0.f0.f1, .int .u64 x0.f0.f2, .int .u64 x0.f0.f3, .bool x0.f1] := Array.toList_inj.1 hcs0
 have k1 := h1
 have lt1 : ∀ x ∈ p1, x.block < W.heap.size := by obtain ⟨m, hm⟩ := k1; exact DataW.trod_lt m _ _ _ hm
 obtain ⟨x1, hK1, wf1⟩ := Open.at_param Q.to39 hsz (j := 1) (t := 39) rfl rfl h1
 obtain ⟨cs1, rfl, _⟩ := okWide_struct Try.underlying39 (hval 1 39 v1 rfl rfl)
 have hO1 := Q.k39_open hK1
 have hcs1 := hO1
 obtain rfl : cs1 = #[.int .u64 x1.f0.f0.f0, .int .u64 x1.f0.f0.f1, .int .u64 x1.f0.f0.f2, .int .u64 x1.f0.f0.f3, .int .i64 x1.f0.f1, .bool x1.f1] := Array.toList_inj.1 hcs1
 have k2 := h2
 have lt2 : ∀ x ∈ p2, x.block < W.heap.size := by obtain ⟨m, hm⟩ := k2; exact DataW.trod_lt m _ _ _ hm
 obtain ⟨x2, hK2, wf2⟩ := Open.at_param Q.to65 hsz (j := 2) (t := 65) rfl rfl h2
 obtain ⟨cs2, rfl, _⟩ := okWide_struct Try.underlying65 (hval 2 65 v2 rfl rfl)
 have hO2 := Q.k65_open hK2
 obtain ⟨A2_9, c2_9, hcs2, hc2_9, hr2_9⟩ := hO2
 obtain rfl : cs2 = #[.int .i64 x2.f0, .int .i64 x2.f1, .int .u64 x2.f2, .int .u64 x2.f3.f0.f0.f0.f0, .int .u64 x2.f3.f0.f0.f0.f1, .int .u64 x2.f3.f0.f0.f0.f2, .int .u64 x2.f3.f0.f0.f0.f3, .int .i64 x2.f3.f0.f0.f1, .bool x2.f3.f0.f1, .slice A2_9 x2.f3.f1.length c2_9, .bool x2.f3.f2, .bool x2.f4] := Array.toList_inj.1 hcs2
 clear hA0 hval0 hsz0 hsz
 obtain ⟨k, hP⟩ := Pure.StreamTells x0 x1 x2 wf0 wf1 wf2
 refine (Q.tenementlaw15_StreamTells.calls k _ _ _ _ _ _ _ _ _ _ _ _ _ _ _ _ _ _ _ _ _ _ _ _ _ true W hr2_9 hc2_9 hP).mono fun e W' ⟨he, bel⟩ => ?_
 subst he
 exact ⟨_, rfl, _, _, _, [], _, [], hW', trodAll_mk1 (shut_bool Try.underlying4 _), (trodAll_cons_mk (Below.trod laidOut (by kernel_rfl) (of_decide_eq_true (by kernel_rfl)) k0 bel lt0) (trodAll_cons_mk (Below.trod laidOut (by kernel_rfl) (of_decide_eq_true (by kernel_rfl)) k1 bel lt1) (trodAll_cons_mk (Below.trod laidOut (by kernel_rfl) (of_decide_eq_true (by kernel_rfl)) k2 bel lt2) trodAll_mk0))), rfl, bel.frame _, fun h => by cases h⟩
theorem over : Rows.streamTellsRow.holds Try.pinned (OpenSpec.ofChange Rows.streamTellsSpec) :=
 OpenClaim.holds_of_wide 4 Try.f4 rfl rfl rfl rfl rfl rfl rfl ⟨rfl, rfl, rfl, rfl, rfl⟩ rfl rfl rfl rfl rfl (by kernel_rfl) Try.func4 (by kernel_rfl)
  (of_decide_eq_true (by kernel_rfl)) (by unfold Func.isWrapper; first | (rw [if_pos (by decide +kernel)]; kernel_rfl) | (rw [if_neg (by decide +kernel)]; exact ⟨rfl, rfl⟩))
  (fun os started H enc _ => lifted os started H enc)
theorem proved : Rows.StreamTellsSaid := over
#print axioms proved
end Go.Proofs.Ytoagfdpgnfinhaa.streamTells
namespace Go.Proofs.Ytoagfdpgnfinhaa
/-- The row, under a short name, for the claim. -/
theorem streamTells_holds : Rows.StreamTellsSaid := streamTells.proved
end Go.Proofs.Ytoagfdpgnfinhaa
