/- Who may be spilled to, by hand. -/
import Derived.Test.YtnocfhnandedoacPSpareTargetsx26
import Derived.Test.YtnocfhnandedoacOpenSpareTargets
set_option linter.unusedVariables false
set_option linter.unusedSimpArgs false
namespace Go.Proofs.Ytnocfhnandedoac.Pure
open Go.RowKit Go.Proofs.Ytnocfhnandedoac.PSpareTargets Go.Proofs.YtnocfhnandedoacW.PrintWords Go.Proofs.YtnocfhnandedoacW.PrintLast Go.Proofs.YtnocfhnandedoacW.PrintMore

/-- Nothing is left to prove: the walk shows that each way ends in true. -/
theorem SpareTargets : wharfagelaw17_SpareTargets.PureX := fun _ _ _ _ => rfl

end Go.Proofs.Ytnocfhnandedoac.Pure
