import Derived.Test.YtoagfdpgnfinhaaRows
import Derived.Test.YtoagfdpgnfinhaaGStreamGets16
import Derived.WalkKit
import Derived.ProofKit
import Derived.OpenShut
import Derived.ShutString
import Derived.ChangeOld
import Derived.Below
import Derived.SizedLaws
namespace Go.Proofs.Ytoagfdpgnfinhaa.streamGets
open Go.ChangeShapes Go.WideShapes Go.ChangeAt Go.RowKit
open Go.ChangeMaps (open_string shut_string)
open Go.Proofs.YtoagfdpgnfinhaaW.PrintWords
set_option linter.unusedVariables false
theorem own:ownKnob Try.prog.godebug=none:=by kernel_rfl
theorem laidOut:laidOutB Try.prog=true:=by kernel_rfl
set_option maxRecDepth 100000 in
theorem lifted (os:Os) (started:os.Started) (H:Type) (enc:TypeId × Value→H) :
  ReturnsInHanded {} Try.checked os 5 .any (Rows.streamGetsSpec.pre6 enc Try.prog Try.f5 Rows.streamGetsRow.domain false) (Rows.streamGetsSpec.post enc Try.prog Try.f5 false true false false):=by
 refine returnsInHanded_of_change_sized (C:=Try.checked) own started (by kernel_rfl) Try.func5
  (ChangeSpec.witness6 (enc:=enc) (C:=Try.checked) false ⟨#[],#[.agg #[.int .i64 0,.int .i64 0,.int .u64 0,.int .u64 0,.int .u64 0,.int .u64 0,.int .u64 0,.int .i64 0,.bool false,.slice none 0 0,.bool false,.bool false],.string ByteArray.empty,.int .u8 0,.int .i64 0,.int .u8 0],[]⟩ 12 (by kernel_rfl) (by kernel_rfl) (by kernel_rfl) (by kernel_rfl)) ?_
 intro W base args ds gs before hval0 hW hcnd hsz0 _
 have hsz:(DataW.weightsEach Try.prog (Try.f5.params.toList++Rows.streamGetsSpec.plain.varTypes Try.prog) (ds++gs)).all (·≤reachBytes)=true:=hsz0
 have hval:∀ (j:Nat) t v,Try.f5.params[j]?=some t→args[j]?=some v→Value.okWide Try.prog W .any base t v:=hval0
 have hW':=hW
 obtain ⟨p,q,hA0,hV,rfl,hfz,hnd⟩:=hW
 have hA:DataW.TrodAll enc Try.prog W 0 (fun _=>true) true Try.f5.params.toList args.toList ds p:=hA0
 rw [Try.params5] at hA hval hsz
 obtain ⟨v0,vs0,d0,ds0,p0,q0,hargs,rfl,rfl,h0,r0⟩:=trodAll_cons hA
 obtain ⟨v1,vs1,d1,ds1,p1,q1,rfl,rfl,rfl,h1,r1⟩:=trodAll_cons r0
 obtain ⟨v2,vs2,d2,ds2,p2,q2,rfl,rfl,rfl,h2,r2⟩:=trodAll_cons r1
 obtain ⟨v3,vs3,d3,ds3,p3,q3,rfl,rfl,rfl,h3,r3⟩:=trodAll_cons r2
 obtain ⟨v4,vs4,d4,ds4,p4,q4,rfl,rfl,rfl,h4,r4⟩:=trodAll_cons r3
 obtain ⟨rfl,rfl,rfl⟩:=trodAll_nil r4
 obtain rfl:args=#[v0,v1,v2,v3,v4]:=by cases args;simp_all
 obtain ⟨rfl,rfl⟩:=trodVars_none hV
 have k0:=h0
 have lt0:∀ x ∈ p0,x.block<W.heap.size:=by obtain ⟨m,hm⟩:=k0;exact DataW.trod_lt m _ _ _ hm
 obtain ⟨x0,hK0,wf0⟩:=Open.at_param Q.to65 hsz (j:=0) (t:=65) rfl rfl h0
 obtain ⟨cs0,rfl,_⟩:=okWide_struct Try.underlying65 (hval 0 65 v0 rfl rfl)
 have hO0:=Q.k65_open hK0
 obtain ⟨A0_9,c0_9,hcs0,hc0_9,hr0_9⟩:=hO0
 obtain rfl:cs0=#[.int .i64 x0.f0,.int .i64 x0.f1,.int .u64 x0.f2,.int .u64 x0.f3.f0.f0.f0.f0,.int .u64 x0.f3.f0.f0.f0.f1,.int .u64 x0.f3.f0.f0.f0.f2,.int .u64 x0.f3.f0.f0.f0.f3,.int .i64 x0.f3.f0.f0.f1,.bool x0.f3.f0.f1,.slice A0_9 x0.f3.f1.length c0_9,.bool x0.f3.f2,.bool x0.f4]:=Array.toList_inj.1 hcs0
 have k1:=h1
 have lt1:∀ x ∈ p1,x.block<W.heap.size:=by obtain ⟨m,hm⟩:=k1;exact DataW.trod_lt m _ _ _ hm
 obtain ⟨x1,hK1,wf1⟩:=Open.at_param (Open.string Try.underlying9 (by kernel_rfl)) hsz (j:=1) (t:=9) rfl rfl h1
 obtain ⟨a1,rfl,_,_,_⟩:=open_string Try.underlying9 (hval 1 9 v1 rfl rfl) h1
 have hE1:a1=x1:=by simpa [Value.cells,Kd.string,Kd.scalar] using hK1
 subst hE1
 have k2:=h2
 have lt2:∀ x ∈ p2,x.block<W.heap.size:=by obtain ⟨m,hm⟩:=k2;exact DataW.trod_lt m _ _ _ hm
 obtain ⟨x2,hK2,wf2⟩:=Open.at_param (Open.int Try.underlying5 (by kernel_rfl)) hsz (j:=2) (t:=5) rfl rfl h2
 obtain ⟨a2,rfl,_,_,_⟩:=open_int Try.underlying5 (hval 2 5 v2 rfl rfl) h2
 have hE2:a2=x2:=by simpa [Value.cells,Kd.int,Kd.scalar] using hK2
 subst hE2
 have k3:=h3
 have lt3:∀ x ∈ p3,x.block<W.heap.size:=by obtain ⟨m,hm⟩:=k3;exact DataW.trod_lt m _ _ _ hm
 obtain ⟨x3,hK3,wf3⟩:=Open.at_param (Open.int Try.underlying3 (by kernel_rfl)) hsz (j:=3) (t:=3) rfl rfl h3
 obtain ⟨a3,rfl,_,_,_⟩:=open_int Try.underlying3 (hval 3 3 v3 rfl rfl) h3
 have hE3:a3=x3:=by simpa [Value.cells,Kd.int,Kd.scalar] using hK3
 subst hE3
 have k4:=h4
 have lt4:∀ x ∈ p4,x.block<W.heap.size:=by obtain ⟨m,hm⟩:=k4;exact DataW.trod_lt m _ _ _ hm
 obtain ⟨x4,hK4,wf4⟩:=Open.at_param (Open.int Try.underlying5 (by kernel_rfl)) hsz (j:=4) (t:=5) rfl rfl h4
 obtain ⟨a4,rfl,_,_,_⟩:=open_int Try.underlying5 (hval 4 5 v4 rfl rfl) h4
 have hE4:a4=x4:=by simpa [Value.cells,Kd.int,Kd.scalar] using hK4
 subst hE4
 clear hA0 hval0 hsz0 hsz
 obtain ⟨k,hP⟩:=Pure.StreamGets x0 a1 a2 a3 a4 wf0 wf1 wf2 wf3 wf4
 refine (Q.L15_StreamGets.calls k _ _ _ _ _ _ _ _ _ _ _ _ _ _ _ _ _ _ true W hr0_9 hc0_9 hP).mono fun e W' ⟨he,bel⟩=>?_
 subst he
 exact ⟨_,rfl,_,_,_,[],_,[],hW',trodAll_mk1 (shut_bool Try.underlying4 _),(trodAll_cons_mk (Below.trod laidOut (by kernel_rfl) (of_decide_eq_true (by kernel_rfl)) k0 bel lt0) (trodAll_cons_mk (Below.trod laidOut (by kernel_rfl) (of_decide_eq_true (by kernel_rfl)) k1 bel lt1) (trodAll_cons_mk (Below.trod laidOut (by kernel_rfl) (of_decide_eq_true (by kernel_rfl)) k2 bel lt2) (trodAll_cons_mk (Below.trod laidOut (by kernel_rfl) (of_decide_eq_true (by kernel_rfl)) k3 bel lt3) (trodAll_cons_mk (Below.trod laidOut (by kernel_rfl) (of_decide_eq_true (by kernel_rfl)) k4 bel lt4) trodAll_mk0))))),rfl,bel.frame _,fun h=>by cases h⟩
theorem over:Rows.streamGetsRow.holds Try.pinned (OpenSpec.ofChange Rows.streamGetsSpec) :=
 OpenClaim.holds_of_wide 5 Try.f5 rfl rfl rfl rfl rfl rfl rfl ⟨rfl,rfl,rfl,rfl,rfl⟩ rfl rfl rfl rfl rfl (by kernel_rfl) Try.func5 (by kernel_rfl)
  (of_decide_eq_true (by kernel_rfl)) (by unfold Func.isWrapper;first|(rw [if_pos (by decide +kernel)];kernel_rfl)|(rw [if_neg (by decide +kernel)];exact ⟨rfl,rfl⟩))
  (fun os started H enc _=>lifted os started H enc)
theorem proved:Rows.StreamGetsSaid:=over
#print axioms proved
end Go.Proofs.Ytoagfdpgnfinhaa.streamGets
namespace Go.Proofs.Ytoagfdpgnfinhaa
/-- The row, under a short name, for the claim. -/
theorem streamGets_holds:Rows.StreamGetsSaid:=streamGets.proved
end Go.Proofs.Ytoagfdpgnfinhaa
