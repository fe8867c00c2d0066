-- Written by this session's own driver (wip/hybrid.py) of the kit's printer; contracts marked FOREIGN are by hand.
import Derived.Test.YtakhahfegialfaaDoorQxf9
import Derived.Test.YtakhahfegialfaaDoorQTypes
set_option linter.unusedVariables false
namespace Go.Proofs.YtakhahfegialfaaDoor.Q
open Go.RowKit Go.Proofs.YtakhahfegialfaaDoor.Q Go.Proofs.YtakhahfegialfaaDoorW.PrintWords Go.Proofs.YtakhahfegialfaaDoorW.PrintLast Go.Proofs.YtakhahfegialfaaDoorW.PrintMore
def tenementlaw06_VecAll.Pure : Prop := ∀ (x0 : List (S26)) (x1 : S26), ((∀ x_ ∈ x0, wf26 x_) ∧ x0.length * 40 ≤ 140737488351232) → (wf26 x1) → ∃ k, tenementlaw06_VecAll.f k x0 (x1.f0.f0) (x1.f0.f1) (x1.f0.f2) (x1.f0.f3) (x1.f1) = some true
end Go.Proofs.YtakhahfegialfaaDoor.Q
