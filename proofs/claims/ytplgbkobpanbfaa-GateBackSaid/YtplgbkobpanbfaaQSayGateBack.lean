-- Written by this session's own driver (wip/hybrid.py) of the kit's printer; contracts marked FOREIGN are by hand.
import Derived.Test.YtplgbkobpanbfaaQxf5
import Derived.Test.YtplgbkobpanbfaaQTypes
set_option linter.unusedVariables false
namespace Go.Proofs.Ytplgbkobpanbfaa.Q
open Go.RowKit Go.Proofs.Ytplgbkobpanbfaa.Q Go.Proofs.YtplgbkobpanbfaaW.PrintWords Go.Proofs.YtplgbkobpanbfaaW.PrintLast Go.Proofs.YtplgbkobpanbfaaW.PrintMore
def tenementlaw19_GateBack.Pure : Prop := ∀ (x0 : S25) (x1 : S25) (x2 : Int), (wf25 x0) → (wf25 x1) → ((Lit.int .u16 x2).wf = true) → ∃ k, tenementlaw19_GateBack.f k (x0.f0.f0) (x0.f0.f1) (x0.f0.f2) (x0.f0.f3) (x0.f0.f4) (x0.f0.f5) (x0.f0.f6) (x0.f0.f7) (x0.f1) (x1.f0.f0) (x1.f0.f1) (x1.f0.f2) (x1.f0.f3) (x1.f0.f4) (x1.f0.f5) (x1.f0.f6) (x1.f0.f7) (x1.f1) x2 = some true
end Go.Proofs.Ytplgbkobpanbfaa.Q
