import Derived.Test.YtbjpfgmmmdfbeaaGQuotaTally0
/- The sum of all values of a map is that of its values, whatever its keys: at most 30 numbers by their places, and how often each byte of a text occurs. -/
set_option linter.unusedVariables false
set_option linter.unusedSimpArgs false
namespace Go.Proofs.Ytbjpfgmmmdfbeaa.Pure
open Go.RowKit Go.Proofs.Ytbjpfgmmmdfbeaa.Q Go.Proofs.YtbjpfgmmmdfbeaaW.PrintWords Go.Proofs.YtbjpfgmmmdfbeaaW.PrintLast Go.Proofs.YtbjpfgmmmdfbeaaW.PrintMore
theorem QuotaTally : tenementlaw13_QuotaTally.Pure := by
  intro l s hl hs
  unfold tenementlaw13_QuotaTally.f
  rw [if_pos ⟨hl.1, hs⟩]
end Go.Proofs.Ytbjpfgmmmdfbeaa.Pure
