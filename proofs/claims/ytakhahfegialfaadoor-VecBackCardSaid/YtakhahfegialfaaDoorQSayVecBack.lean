-- Written by this session's own driver (wip/hybrid.py) of the kit's printer; contracts marked FOREIGN are by hand.
import Derived.Test.YtakhahfegialfaaDoorQxf7p0
import Derived.Test.YtakhahfegialfaaDoorQxf7p1
import Derived.Test.YtakhahfegialfaaDoorQxf7p2
import Derived.Test.YtakhahfegialfaaDoorQxf7p3
import Derived.Test.YtakhahfegialfaaDoorQTypes
set_option linter.unusedVariables false
namespace Go.Proofs.YtakhahfegialfaaDoor.Q
open Go.RowKit Go.Proofs.YtakhahfegialfaaDoor.Q Go.Proofs.YtakhahfegialfaaDoorW.PrintWords Go.Proofs.YtakhahfegialfaaDoorW.PrintLast Go.Proofs.YtakhahfegialfaaDoorW.PrintMore
def tenementlaw06_VecBack.Pure : Prop := ∀ (x0 : S26) (x1 : S26) (x2 : ByteArray) (x3 : Int), (wf26 x0) → (wf26 x1) → (x2.size ≤ 140737488351232) → ((Lit.int .u8 x3).wf = true) → ∃ k, tenementlaw06_VecBack_p0.f k (x0.f0.f0) (x0.f0.f1) (x0.f0.f2) (x0.f0.f3) (x0.f1) (x1.f0.f0) (x1.f0.f1) (x1.f0.f2) (x1.f0.f3) (x1.f1) x2 x3 = some true ∨ tenementlaw06_VecBack_p1.f k (x0.f0.f0) (x0.f0.f1) (x0.f0.f2) (x0.f0.f3) (x0.f1) (x1.f0.f0) (x1.f0.f1) (x1.f0.f2) (x1.f0.f3) (x1.f1) x2 x3 = some true ∨ tenementlaw06_VecBack_p2.f k (x0.f0.f0) (x0.f0.f1) (x0.f0.f2) (x0.f0.f3) (x0.f1) (x1.f0.f0) (x1.f0.f1) (x1.f0.f2) (x1.f0.f3) (x1.f1) x2 x3 = some true ∨ tenementlaw06_VecBack_p3.f k (x0.f0.f0) (x0.f0.f1) (x0.f0.f2) (x0.f0.f3) (x0.f1) (x1.f0.f0) (x1.f0.f1) (x1.f0.f2) (x1.f0.f3) (x1.f1) x2 x3 = some true
end Go.Proofs.YtakhahfegialfaaDoor.Q
