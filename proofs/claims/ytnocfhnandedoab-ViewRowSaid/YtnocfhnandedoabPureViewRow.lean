/- Of reports in any row the newest one that came is seen, when it came. -/
import Derived.Test.YtnocfhnandedoabPVRowx12
import Derived.Test.YtnocfhnandedoabOpenViewRow
set_option linter.unusedVariables false
set_option linter.unusedSimpArgs false
namespace Go.Proofs.Ytnocfhnandedoab.Pure
open Go.RowKit Go.Proofs.Ytnocfhnandedoab.PVRow Go.Proofs.YtnocfhnandedoabW.PrintWords Go.Proofs.YtnocfhnandedoabW.PrintLast Go.Proofs.YtnocfhnandedoabW.PrintMore

/-- Nothing is left to prove: the walk shows that each way ends in true. -/
theorem ViewRow : wharfagelaw12_ViewRow.PureX := fun _ _ => rfl

end Go.Proofs.Ytnocfhnandedoab.Pure
