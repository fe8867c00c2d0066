-- Written by this session's own driver (wip/hybrid.py) of the kit's printer; contracts marked FOREIGN are by hand.
import Derived.Test.YtakhahfegialfaaDoorQxf4
import Derived.Test.YtakhahfegialfaaDoorQTypes
set_option linter.unusedVariables false
namespace Go.Proofs.YtakhahfegialfaaDoor.Q
open Go.RowKit Go.Proofs.YtakhahfegialfaaDoor.Q Go.Proofs.YtakhahfegialfaaDoorW.PrintWords Go.Proofs.YtakhahfegialfaaDoorW.PrintLast Go.Proofs.YtakhahfegialfaaDoorW.PrintMore
def tenementlaw06_VecGets.Pure : Prop := ∀ (x0 : S26) (x1 : ByteArray) (x2 : Bool) (x3 : Int) (x4 : Int) (x5 : Bool), (wf26 x0) → (x1.size ≤ 140737488351232) → ((Lit.int .i64 x3).wf = true) → ((Lit.int .u8 x4).wf = true) → ∃ k, tenementlaw06_VecGets.f k (x0.f0.f0) (x0.f0.f1) (x0.f0.f2) (x0.f0.f3) (x0.f1) x1 x2 x3 x4 x5 = some true
end Go.Proofs.YtakhahfegialfaaDoor.Q
