/- Reports, bytes, serials that are none are told as such, whatever the numbers are; no byte of a report may turn unnoticed. -/
import Derived.Test.YtnocfhnandedoaaPRFormx12
import Derived.Test.YtnocfhnandedoaaOpenReportForms
set_option linter.unusedVariables false
set_option linter.unusedSimpArgs false
namespace Go.Proofs.Ytnocfhnandedoaa.Pure
open Go.RowKit Go.Proofs.Ytnocfhnandedoaa.PRForm Go.Proofs.YtnocfhnandedoaaW.PrintWords Go.Proofs.YtnocfhnandedoaaW.PrintLast Go.Proofs.YtnocfhnandedoaaW.PrintMore

/-- Nothing is left to prove: the walk shows that each way ends in true. -/
theorem ReportForms : wharfagelaw7_ReportForms.PureX := fun _ _ _ _ => rfl

end Go.Proofs.Ytnocfhnandedoaa.Pure
