-- Written by this session's own driver (wip/hybrid.py) of the kit's printer; contracts marked FOREIGN are by hand.
import Derived.Test.YtplgbkobpanbfaaQxf6
import Derived.Test.YtplgbkobpanbfaaQTypes
set_option linter.unusedVariables false
namespace Go.Proofs.Ytplgbkobpanbfaa.Q
open Go.RowKit Go.Proofs.Ytplgbkobpanbfaa.Q Go.Proofs.YtplgbkobpanbfaaW.PrintWords Go.Proofs.YtplgbkobpanbfaaW.PrintLast Go.Proofs.YtplgbkobpanbfaaW.PrintMore
def tenementlaw19_GateAnswers.Pure : Prop := ∀ (x0 : Int) (x1 : ByteArray) (x2 : Bool) (x3 : S30) (x4 : Int), ((Lit.int .u8 x0).wf = true) → (x1.size ≤ 140737488351232) → (wf30 x3) → ((Lit.int .u16 x4).wf = true) → ∃ k, tenementlaw19_GateAnswers.f k x0 x1 x2 (x3.f0.f0) (x3.f0.f1) (x3.f0.f2) (x3.f0.f3) (x3.f1) x4 = some true
end Go.Proofs.Ytplgbkobpanbfaa.Q
