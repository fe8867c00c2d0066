-- Written by this session's own driver (wip/hybrid.py) of the kit's printer; contracts marked FOREIGN are by hand.
import Derived.Test.YtakhahfegialfaaDoorQxf3
import Derived.Test.YtakhahfegialfaaDoorQTypes
set_option linter.unusedVariables false
namespace Go.Proofs.YtakhahfegialfaaDoor.Q
open Go.RowKit Go.Proofs.YtakhahfegialfaaDoor.Q Go.Proofs.YtakhahfegialfaaDoorW.PrintWords Go.Proofs.YtakhahfegialfaaDoorW.PrintLast Go.Proofs.YtakhahfegialfaaDoorW.PrintMore
def tenementlaw06_VecTells.Pure : Prop := ∀ (x0 : S26) (x1 : S26) (x2 : Int) (x3 : Int) (x4 : Bool), (wf26 x0) → (wf26 x1) → ((Lit.int .i64 x2).wf = true) → ((Lit.int .u64 x3).wf = true) → ∃ k, tenementlaw06_VecTells.f k (x0.f0.f0) (x0.f0.f1) (x0.f0.f2) (x0.f0.f3) (x0.f1) (x1.f0.f0) (x1.f0.f1) (x1.f0.f2) (x1.f0.f3) (x1.f1) x2 x3 x4 = some true
end Go.Proofs.YtakhahfegialfaaDoor.Q
