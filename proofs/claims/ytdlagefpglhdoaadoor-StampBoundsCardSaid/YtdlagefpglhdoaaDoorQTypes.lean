-- Written by this session's own driver (wip/hybrid.py) of the kit's printer; contracts marked FOREIGN are by hand.
import Derived.Test.YtdlagefpglhdoaaDoorQx0
import Derived.Test.YtdlagefpglhdoaaDoorOpen
import Derived.KernelRfl
set_option linter.unusedVariables false
namespace Go.Proofs.YtdlagefpglhdoaaDoor.Q
open Go.RowKit Go.Proofs.YtdlagefpglhdoaaDoor.Q Go.Proofs.YtdlagefpglhdoaaDoorW.PrintWords Go.Proofs.YtdlagefpglhdoaaDoorW.PrintLast Go.Proofs.YtdlagefpglhdoaaDoorW.PrintMore
open Go.Proofs.YtdlagefpglhdoaaDoor
def wf24 (x : S24) : Prop := ((Lit.int .u64 x.f0).wf = true) ∧ ((Lit.int .u64 x.f1).wf = true) ∧ ((Lit.int .u64 x.f2).wf = true) ∧ ((Lit.int .u64 x.f3).wf = true)
theorem to24 : Open.To Tryd.prog 24 k24 wf24 := Open.imp (Open.iso (fun x : S24 => (x.f0, (x.f1, (x.f2, x.f3)))) (fun y => (⟨y.1, y.2.1, y.2.2.1, y.2.2.2⟩ : S24)) (fun _ => rfl) (Open.array (n := 4) (e := 22) (s := 1) Tryd.underlying24 (by kernel_rfl) (by kernel_rfl) (show Open.Fs Tryd.prog 0 [(22, 0), (22, 1), (22, 2), (22, 3)] _ _ from (Open.cons (Open.int Tryd.underlying22 (by kernel_rfl)) (Open.cons (Open.int Tryd.underlying22 (by kernel_rfl)) (Open.cons (Open.int Tryd.underlying22 (by kernel_rfl)) (Open.one (Open.int Tryd.underlying22 (by kernel_rfl))))))))) (fun _ h => h)
def wf26 (x : S26) : Prop := (wf24 x.f0) ∧ ((Lit.int .i64 x.f1).wf = true)
theorem to26 : Open.To Tryd.prog 26 k26 wf26 := Open.imp (Open.iso (fun x : S26 => (x.f0, x.f1)) (fun y => (⟨y.1, y.2⟩ : S26)) (fun _ => rfl) (Open.struct Tryd.underlying26 (by rfl) (by kernel_rfl) (show Open.Fs Tryd.prog 0 [(24, 0), (3, 4)] _ _ from (Open.cons to24 (Open.one (Open.int Tryd.underlying3 (by kernel_rfl))))))) (fun _ h => h)
def wf28 (x : S28) : Prop := (wf26 x.f0) ∧ (True)
theorem to28 : Open.To Tryd.prog 28 k28 wf28 := Open.imp (Open.iso (fun x : S28 => (x.f0, x.f1)) (fun y => (⟨y.1, y.2⟩ : S28)) (fun _ => rfl) (Open.struct Tryd.underlying28 (by rfl) (by kernel_rfl) (show Open.Fs Tryd.prog 0 [(26, 0), (4, 5)] _ _ from (Open.cons to26 (Open.one (Open.bool Tryd.underlying4 (by kernel_rfl))))))) (fun _ h => h)
def wf30 (x : S30) : Prop := (wf24 x.f0) ∧ (True)
theorem to30 : Open.To Tryd.prog 30 k30 wf30 := Open.imp (Open.iso (fun x : S30 => (x.f0, x.f1)) (fun y => (⟨y.1, y.2⟩ : S30)) (fun _ => rfl) (Open.struct Tryd.underlying30 (by rfl) (by kernel_rfl) (show Open.Fs Tryd.prog 0 [(24, 0), (4, 4)] _ _ from (Open.cons to24 (Open.one (Open.bool Tryd.underlying4 (by kernel_rfl))))))) (fun _ h => h)
end Go.Proofs.YtdlagefpglhdoaaDoor.Q
