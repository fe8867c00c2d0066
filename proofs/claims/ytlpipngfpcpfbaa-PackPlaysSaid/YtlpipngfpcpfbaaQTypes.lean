-- Written by this session's own driver (wip/hybrid.py) of the kit's printer; contracts marked FOREIGN are by hand.
import Derived.Test.YtlpipngfpcpfbaaQx0
import Derived.Test.YtlpipngfpcpfbaaOpen
import Derived.KernelRfl
set_option linter.unusedVariables false
namespace Go.Proofs.Ytlpipngfpcpfbaa.Q
open Go.RowKit Go.Proofs.Ytlpipngfpcpfbaa.Q Go.Proofs.YtlpipngfpcpfbaaW.PrintWords Go.Proofs.YtlpipngfpcpfbaaW.PrintLast Go.Proofs.YtlpipngfpcpfbaaW.PrintMore
open Go.Proofs.Ytlpipngfpcpfbaa
def wf35 (x : S35) : Prop := (x.f0.size ≤ 140737488351232) ∧ (True)
theorem to35 : Open.To Try.prog 35 k35 wf35 := Open.imp (Open.iso (fun x : S35 => (x.f0, x.f1)) (fun y => (⟨y.1, y.2⟩ : S35)) (fun _ => rfl) (Open.struct Try.underlying35 (by rfl) (by kernel_rfl) (show Open.Fs Try.prog 0 [(9, 0), (4, 1)] _ _ from (Open.cons (Open.string Try.underlying9 (by kernel_rfl)) (Open.one (Open.bool Try.underlying4 (by kernel_rfl))))))) (fun _ h => h)
def wf43 (x : S43) : Prop := ((Lit.int .u8 x.f0).wf = true) ∧ ((Lit.int .i64 x.f1).wf = true)
theorem to43 : Open.To Try.prog 43 k43 wf43 := Open.imp (Open.iso (fun x : S43 => (x.f0, x.f1)) (fun y => (⟨y.1, y.2⟩ : S43)) (fun _ => rfl) (Open.struct Try.underlying43 (by rfl) (by kernel_rfl) (show Open.Fs Try.prog 0 [(5, 0), (3, 1)] _ _ from (Open.cons (Open.int Try.underlying5 (by kernel_rfl)) (Open.one (Open.int Try.underlying3 (by kernel_rfl))))))) (fun _ h => h)
end Go.Proofs.Ytlpipngfpcpfbaa.Q
