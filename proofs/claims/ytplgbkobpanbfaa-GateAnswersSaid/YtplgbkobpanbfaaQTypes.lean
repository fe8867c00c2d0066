-- Written by this session's own driver (wip/hybrid.py) of the kit's printer; contracts marked FOREIGN are by hand.
import Derived.Test.YtplgbkobpanbfaaQx0
import Derived.Test.YtplgbkobpanbfaaOpen
import Derived.KernelRfl
set_option linter.unusedVariables false
namespace Go.Proofs.Ytplgbkobpanbfaa.Q
open Go.RowKit Go.Proofs.Ytplgbkobpanbfaa.Q Go.Proofs.YtplgbkobpanbfaaW.PrintWords Go.Proofs.YtplgbkobpanbfaaW.PrintLast Go.Proofs.YtplgbkobpanbfaaW.PrintMore
open Go.Proofs.Ytplgbkobpanbfaa
def wf23 (x : S23) : Prop := (x.f0.size ≤ 140737488351232) ∧ ((Lit.int .i64 x.f1).wf = true) ∧ ((Lit.int .i64 x.f2).wf = true) ∧ ((Lit.int .i64 x.f3).wf = true) ∧ ((Lit.int .i64 x.f4).wf = true) ∧ (x.f5.size ≤ 140737488351232) ∧ (x.f6.size ≤ 140737488351232) ∧ (x.f7.size ≤ 140737488351232)
theorem to23 : Open.To Try.prog 23 k23 wf23 := Open.imp (Open.iso (fun x : S23 => (x.f0, (x.f1, (x.f2, (x.f3, (x.f4, (x.f5, (x.f6, x.f7)))))))) (fun y => (⟨y.1, y.2.1, y.2.2.1, y.2.2.2.1, y.2.2.2.2.1, y.2.2.2.2.2.1, y.2.2.2.2.2.2.1, y.2.2.2.2.2.2.2⟩ : S23)) (fun _ => rfl) (Open.struct Try.underlying23 (by rfl) (by kernel_rfl) (show Open.Fs Try.prog 0 [(9, 0), (3, 1), (3, 2), (3, 3), (3, 4), (9, 5), (9, 6), (9, 7)] _ _ from (Open.cons (Open.string Try.underlying9 (by kernel_rfl)) (Open.cons (Open.int Try.underlying3 (by kernel_rfl)) (Open.cons (Open.int Try.underlying3 (by kernel_rfl)) (Open.cons (Open.int Try.underlying3 (by kernel_rfl)) (Open.cons (Open.int Try.underlying3 (by kernel_rfl)) (Open.cons (Open.string Try.underlying9 (by kernel_rfl)) (Open.cons (Open.string Try.underlying9 (by kernel_rfl)) (Open.one (Open.string Try.underlying9 (by kernel_rfl))))))))))))) (fun _ h => h)
def wf25 (x : S25) : Prop := (wf23 x.f0) ∧ (True)
theorem to25 : Open.To Try.prog 25 k25 wf25 := Open.imp (Open.iso (fun x : S25 => (x.f0, x.f1)) (fun y => (⟨y.1, y.2⟩ : S25)) (fun _ => rfl) (Open.struct Try.underlying25 (by rfl) (by kernel_rfl) (show Open.Fs Try.prog 0 [(23, 0), (4, 8)] _ _ from (Open.cons to23 (Open.one (Open.bool Try.underlying4 (by kernel_rfl))))))) (fun _ h => h)
def wf28 (x : S28) : Prop := ((Lit.int .u64 x.f0).wf = true) ∧ ((Lit.int .u64 x.f1).wf = true) ∧ ((Lit.int .u64 x.f2).wf = true) ∧ ((Lit.int .u64 x.f3).wf = true)
theorem to28 : Open.To Try.prog 28 k28 wf28 := Open.imp (Open.iso (fun x : S28 => (x.f0, (x.f1, (x.f2, x.f3)))) (fun y => (⟨y.1, y.2.1, y.2.2.1, y.2.2.2⟩ : S28)) (fun _ => rfl) (Open.array (n := 4) (e := 26) (s := 1) Try.underlying28 (by kernel_rfl) (by kernel_rfl) (show Open.Fs Try.prog 0 [(26, 0), (26, 1), (26, 2), (26, 3)] _ _ from (Open.cons (Open.int Try.underlying26 (by kernel_rfl)) (Open.cons (Open.int Try.underlying26 (by kernel_rfl)) (Open.cons (Open.int Try.underlying26 (by kernel_rfl)) (Open.one (Open.int Try.underlying26 (by kernel_rfl))))))))) (fun _ h => h)
def wf30 (x : S30) : Prop := (wf28 x.f0) ∧ (True)
theorem to30 : Open.To Try.prog 30 k30 wf30 := Open.imp (Open.iso (fun x : S30 => (x.f0, x.f1)) (fun y => (⟨y.1, y.2⟩ : S30)) (fun _ => rfl) (Open.struct Try.underlying30 (by rfl) (by kernel_rfl) (show Open.Fs Try.prog 0 [(28, 0), (4, 4)] _ _ from (Open.cons to28 (Open.one (Open.bool Try.underlying4 (by kernel_rfl))))))) (fun _ h => h)
end Go.Proofs.Ytplgbkobpanbfaa.Q
