-- Written by this session's own driver (wip/hybrid.py) of the kit's printer; contracts marked FOREIGN are by hand.
import Derived.Test.YtakhahfegialfaaDoorQxf8
import Derived.Test.YtakhahfegialfaaDoorQTypes
set_option linter.unusedVariables false
namespace Go.Proofs.YtakhahfegialfaaDoor.Q
open Go.RowKit Go.Proofs.YtakhahfegialfaaDoor.Q Go.Proofs.YtakhahfegialfaaDoorW.PrintWords Go.Proofs.YtakhahfegialfaaDoorW.PrintLast Go.Proofs.YtakhahfegialfaaDoorW.PrintMore
def tenementlaw06_VecWith.Pure : Prop := ∀ (x0 : S26) (x1 : Int) (x2 : Int) (x3 : Bool), (wf26 x0) → ((Lit.int .i64 x1).wf = true) → ((Lit.int .u64 x2).wf = true) → ∃ k, tenementlaw06_VecWith.f k (x0.f0.f0) (x0.f0.f1) (x0.f0.f2) (x0.f0.f3) (x0.f1) x1 x2 x3 = some true
end Go.Proofs.YtakhahfegialfaaDoor.Q
