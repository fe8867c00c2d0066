-- Written by this session's own driver (wip/hybrid.py) of the kit's printer; contracts marked FOREIGN are by hand.
import Derived.Test.YtakhahfegialfaaDoorQx0
import Derived.Test.YtakhahfegialfaaDoorOpen
import Derived.KernelRfl
set_option linter.unusedVariables false
namespace Go.Proofs.YtakhahfegialfaaDoor.Q
open Go.RowKit Go.Proofs.YtakhahfegialfaaDoor.Q Go.Proofs.YtakhahfegialfaaDoorW.PrintWords Go.Proofs.YtakhahfegialfaaDoorW.PrintLast Go.Proofs.YtakhahfegialfaaDoorW.PrintMore
open Go.Proofs.YtakhahfegialfaaDoor
def wf24 (x : S24) : Prop := ((Lit.int .u64 x.f0).wf = true) ∧ ((Lit.int .u64 x.f1).wf = true) ∧ ((Lit.int .u64 x.f2).wf = true) ∧ ((Lit.int .u64 x.f3).wf = true)
theorem to24 : Open.To Tryd.prog 24 k24 wf24 := Open.imp (Open.iso (fun x : S24 => (x.f0, (x.f1, (x.f2, x.f3)))) (fun y => (⟨y.1, y.2.1, y.2.2.1, y.2.2.2⟩ : S24)) (fun _ => rfl) (Open.array (n := 4) (e := 22) (s := 1) Tryd.underlying24 (by kernel_rfl) (by kernel_rfl) (show Open.Fs Tryd.prog 0 [(22, 0), (22, 1), (22, 2), (22, 3)] _ _ from (Open.cons (Open.int Tryd.underlying22 (by kernel_rfl)) (Open.cons (Open.int Tryd.underlying22 (by kernel_rfl)) (Open.cons (Open.int Tryd.underlying22 (by kernel_rfl)) (Open.one (Open.int Tryd.underlying22 (by kernel_rfl))))))))) (fun _ h => h)
def wf26 (x : S26) : Prop := (wf24 x.f0) ∧ (True)
theorem to26 : Open.To Tryd.prog 26 k26 wf26 := Open.imp (Open.iso (fun x : S26 => (x.f0, x.f1)) (fun y => (⟨y.1, y.2⟩ : S26)) (fun _ => rfl) (Open.struct Tryd.underlying26 (by rfl) (by kernel_rfl) (show Open.Fs Tryd.prog 0 [(24, 0), (4, 4)] _ _ from (Open.cons to24 (Open.one (Open.bool Tryd.underlying4 (by kernel_rfl))))))) (fun _ h => h)
end Go.Proofs.YtakhahfegialfaaDoor.Q
