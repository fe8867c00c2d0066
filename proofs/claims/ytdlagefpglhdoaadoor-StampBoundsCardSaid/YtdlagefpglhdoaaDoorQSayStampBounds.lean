-- Written by this session's own driver (wip/hybrid.py) of the kit's printer; contracts marked FOREIGN are by hand.
import Derived.Test.YtdlagefpglhdoaaDoorQxf7
import Derived.Test.YtdlagefpglhdoaaDoorQTypes
set_option linter.unusedVariables false
namespace Go.Proofs.YtdlagefpglhdoaaDoor.Q
open Go.RowKit Go.Proofs.YtdlagefpglhdoaaDoor.Q Go.Proofs.YtdlagefpglhdoaaDoorW.PrintWords Go.Proofs.YtdlagefpglhdoaaDoorW.PrintLast Go.Proofs.YtdlagefpglhdoaaDoorW.PrintMore
def tenementlaw07_StampBounds.Pure : Prop := ∀ (x0 : S28) (x1 : Int) (x2 : Int), (wf28 x0) → ((Lit.int .i8 x1).wf = true) → ((Lit.int .u8 x2).wf = true) → ∃ k, tenementlaw07_StampBounds.f k (x0.f0.f0.f0) (x0.f0.f0.f1) (x0.f0.f0.f2) (x0.f0.f0.f3) (x0.f0.f1) (x0.f1) x1 x2 = some true
end Go.Proofs.YtdlagefpglhdoaaDoor.Q
