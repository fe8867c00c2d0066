-- Written by this session's own driver (wip/hybrid.py) of the kit's printer; contracts marked FOREIGN are by hand.
import Derived.Test.YtplgbkobpanbfaaQxf3
import Derived.Test.YtplgbkobpanbfaaQTypes
set_option linter.unusedVariables false
namespace Go.Proofs.Ytplgbkobpanbfaa.Q
open Go.RowKit Go.Proofs.Ytplgbkobpanbfaa.Q Go.Proofs.YtplgbkobpanbfaaW.PrintWords Go.Proofs.YtplgbkobpanbfaaW.PrintLast Go.Proofs.YtplgbkobpanbfaaW.PrintMore
def tenementlaw19_GateTells.Pure : Prop := ∀ (x0 : S25) (x1 : Int) (x2 : ByteArray) (x3 : Bool) (x4 : S30), (wf25 x0) → ((Lit.int .i64 x1).wf = true) → (x2.size ≤ 140737488351232) → (wf30 x4) → ∃ k, tenementlaw19_GateTells.f k (x0.f0.f0) (x0.f0.f1) (x0.f0.f2) (x0.f0.f3) (x0.f0.f4) (x0.f0.f5) (x0.f0.f6) (x0.f0.f7) (x0.f1) x1 x2 x3 (x4.f0.f0) (x4.f0.f1) (x4.f0.f2) (x4.f0.f3) (x4.f1) = some true
end Go.Proofs.Ytplgbkobpanbfaa.Q
