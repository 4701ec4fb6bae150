/- Who is full, by hand. -/
import Derived.Test.YtnocfhnandedoacPSpareTablex27
import Derived.Test.YtnocfhnandedoacOpenSpareTable
set_option linter.unusedVariables false
set_option linter.unusedSimpArgs false
namespace Go.Proofs.Ytnocfhnandedoac.Pure
open Go.RowKit Go.Proofs.Ytnocfhnandedoac.PSpareTable Go.Proofs.YtnocfhnandedoacW.PrintWords Go.Proofs.YtnocfhnandedoacW.PrintLast Go.Proofs.YtnocfhnandedoacW.PrintMore

/-- Nothing is left to prove: the walk shows that each way ends in true. -/
theorem SpareTable : wharfagelaw17_SpareTable.PureX := fun _ _ => rfl

end Go.Proofs.Ytnocfhnandedoac.Pure
