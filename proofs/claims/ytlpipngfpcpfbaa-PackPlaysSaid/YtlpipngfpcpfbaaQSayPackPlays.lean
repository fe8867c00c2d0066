-- Written by this session's own driver (wip/hybrid.py) of the kit's printer; contracts marked FOREIGN are by hand.
import Derived.Test.YtlpipngfpcpfbaaQx23
import Derived.Test.YtlpipngfpcpfbaaQTypes
set_option linter.unusedVariables false
namespace Go.Proofs.Ytlpipngfpcpfbaa.Q
open Go.RowKit Go.Proofs.Ytlpipngfpcpfbaa.Q Go.Proofs.YtlpipngfpcpfbaaW.PrintWords Go.Proofs.YtlpipngfpcpfbaaW.PrintLast Go.Proofs.YtlpipngfpcpfbaaW.PrintMore
def tenementlaw02_PackPlays.Pure : Prop := ∀ (x0 : S35) (x1 : List (S43)) (x2 : Int) (x3 : Int) (x4 : ByteArray), (wf35 x0) → ((∀ x_ ∈ x1, wf43 x_) ∧ x1.length * 16 ≤ 140737488351232) → ((Lit.int .u64 x2).wf = true) → ((Lit.int .i64 x3).wf = true) → (x4.size ≤ 140737488351232) → ∃ k, tenementlaw02_PackPlays.f k (x0.f0) (x0.f1) x1 x2 x3 x4 = some true
end Go.Proofs.Ytlpipngfpcpfbaa.Q
