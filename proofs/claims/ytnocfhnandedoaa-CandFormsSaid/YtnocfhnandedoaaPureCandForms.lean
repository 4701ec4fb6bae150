/- Configurations, healths, sites that may not be are told as such. -/
import Derived.Test.YtnocfhnandedoaaPCandFormsx14
import Derived.Test.YtnocfhnandedoaaOpenCandForms
set_option linter.unusedVariables false
set_option linter.unusedSimpArgs false
namespace Go.Proofs.Ytnocfhnandedoaa.Pure
open Go.RowKit Go.Proofs.Ytnocfhnandedoaa.PCandForms Go.Proofs.YtnocfhnandedoaaW.PrintWords Go.Proofs.YtnocfhnandedoaaW.PrintLast Go.Proofs.YtnocfhnandedoaaW.PrintMore

/-- Nothing is left to prove: the walk shows that each way ends in true. -/
theorem CandForms : wharfagelaw13_CandForms.PureX := fun _ _ _ _ => rfl

end Go.Proofs.Ytnocfhnandedoaa.Pure
