import Derived.Test.YtoogchgoiciggaaRows
import Derived.Test.YtoogchgoiciggaaGItemWhole10
import Derived.WalkKit
import Derived.ProofKit
import Derived.OpenShut
import Derived.ShutString
import Derived.ChangeOld
import Derived.Below
import Derived.SizedLaws
namespace Go.Proofs.Ytoogchgoiciggaa.itemWhole
open Go.ChangeShapes Go.WideShapes Go.ChangeAt Go.RowKit
open Go.ChangeMaps (open_string shut_string)
open Go.Proofs.YtoogchgoiciggaaW.PrintWords
set_option linter.unusedVariables false
theorem own : ownKnob Try.prog.godebug = none := by kernel_rfl
theorem laidOut : laidOutB Try.prog = true := by kernel_rfl
set_option maxRecDepth 100000 in
theorem lifted (os : Os) (started : os.Started) (H : Type) (enc : TypeId × Value → H) :
  ReturnsInHanded {} Try.checked os 8 .any (Rows.itemWholeSpec.pre6 enc Try.prog Try.f8 Rows.itemWholeRow.domain false) (Rows.itemWholeSpec.post enc Try.prog Try.f8 false true false false) := by
 refine returnsInHanded_of_change_sized (C := Try.checked) own started (by kernel_rfl) Try.func8
  (ChangeSpec.witness6 (enc := enc) (C := Try.checked) false ⟨#[], #[.agg #[.int .u64 0, .int .u64 0, .int .u64 0, .int .u64 0, .int .i64 0, .bool false, .slice none 0 0, .bool false], .int .u8 0], []⟩ 12 (by kernel_rfl) (by kernel_rfl) (by kernel_rfl) (by kernel_rfl)) ?_
 intro W base args ds gs before hval0 hW hcnd hsz0 _
 have hsz : (DataW.weightsEach Try.prog (Try.f8.params.toList ++ Rows.itemWholeSpec.plain.varTypes Try.prog) (ds ++ gs)).all (· ≤ reachBytes) = true := hsz0
 have hval : ∀ (j : Nat) t v, Try.f8.params[j]? = some t → args[j]? = some v → Value.okWide Try.prog W .any base t v := hval0
 have hW' := hW
 obtain ⟨p, q, hA0, hV, rfl, hfz, hnd⟩ := hW
 have hA : DataW.TrodAll enc Try.prog W 0 (fun _ => true) true Try.f8.params.toList args.toList ds p := hA0
 rw [Try.params8] at hA hval hsz
 obtain ⟨v0, vs0, d0, ds0, p0, q0, hargs, rfl, rfl, h0, r0⟩ := trodAll_cons hA
 obtain ⟨v1, vs1, d1, ds1, p1, q1, rfl, rfl, rfl, h1, r1⟩ := trodAll_cons r0
 obtain ⟨rfl, rfl, rfl⟩ := trodAll_nil r1
 obtain rfl : args = #[v0, v1] := by cases args; simp_all
 obtain ⟨rfl, rfl⟩ := trodVars_none hV
 have k0 := h0
 have lt0 : ∀ x ∈ p0, x.block < W.heap.size := by obtain ⟨m, hm⟩ := k0; exact DataW.trod_lt m _ _ _ hm
 obtain ⟨x0, hK0, wf0⟩ := Open.at_param Q.to35 hsz (j := 0) (t := 35) rfl rfl h0
 obtain ⟨cs0, rfl, _⟩ := okWide_struct Try.underlying35 (hval 0 35 v0 rfl rfl)
 have hO0 := Q.k35_open hK0
 obtain ⟨A0_6, c0_6, hcs0, hc0_6, hr0_6⟩ := hO0
 obtain rfl : cs0 = #[.int .u64 x0.f0.f0.f0.f0, .int .u64 x0.f0.f0.f0.f1, .int .u64 x0.f0.f0.f0.f2, .int .u64 x0.f0.f0.f0.f3, .int .i64 x0.f0.f0.f1, .bool x0.f0.f1, .slice A0_6 x0.f1.length c0_6, .bool x0.f2] := Array.toList_inj.1 hcs0
 have k1 := h1
 have lt1 : ∀ x ∈ p1, x.block < W.heap.size := by obtain ⟨m, hm⟩ := k1; exact DataW.trod_lt m _ _ _ hm
 obtain ⟨x1, hK1, wf1⟩ := Open.at_param (Open.int Try.underlying5 (by kernel_rfl)) hsz (j := 1) (t := 5) rfl rfl h1
 obtain ⟨a1, rfl, _, _, _⟩ := open_int Try.underlying5 (hval 1 5 v1 rfl rfl) h1
 have hE1 : a1 = x1 := by simpa [Value.cells, Kd.int, Kd.scalar] using hK1
 subst hE1
 clear hA0 hval0 hsz0 hsz
 have hP := Pure.ItemWhole x0 a1 wf0 wf1
 refine (Q.tenementlaw08_ItemWhole.calls _ _ _ _ _ _ _ _ _ _ _ true W hr0_6 hc0_6 hP).mono fun e W' ⟨he, bel⟩ => ?_
 subst he
 exact ⟨_, rfl, _, _, _, [], _, [], hW', trodAll_mk1 (shut_bool Try.underlying4 _), (trodAll_cons_mk (Below.trod laidOut (by kernel_rfl) (of_decide_eq_true (by kernel_rfl)) k0 bel lt0) (trodAll_cons_mk (Below.trod laidOut (by kernel_rfl) (of_decide_eq_true (by kernel_rfl)) k1 bel lt1) trodAll_mk0)), rfl, bel.frame _, fun h => by cases h⟩
theorem over : Rows.itemWholeRow.holds Try.pinned (OpenSpec.ofChange Rows.itemWholeSpec) :=
 OpenClaim.holds_of_wide 8 Try.f8 rfl rfl rfl rfl rfl rfl rfl ⟨rfl, rfl, rfl, rfl, rfl⟩ rfl rfl rfl rfl rfl (by kernel_rfl) Try.func8 (by kernel_rfl)
  (of_decide_eq_true (by kernel_rfl)) (by unfold Func.isWrapper; first | (rw [if_pos (by decide +kernel)]; kernel_rfl) | (rw [if_neg (by decide +kernel)]; exact ⟨rfl, rfl⟩))
  (fun os started H enc _ => lifted os started H enc)
theorem proved : Rows.ItemWholeSaid := over
#print axioms proved
end Go.Proofs.Ytoogchgoiciggaa.itemWhole
namespace Go.Proofs.Ytoogchgoiciggaa
/-- The row, under a short name, for the claim. -/
theorem itemWhole_holds : Rows.ItemWholeSaid := itemWhole.proved
end Go.Proofs.Ytoogchgoiciggaa
