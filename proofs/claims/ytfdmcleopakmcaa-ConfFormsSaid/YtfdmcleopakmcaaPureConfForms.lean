/- Configurations that may not be are refused. -/
import Derived.Test.YtfdmcleopakmcaaPConfFormsx10
import Derived.Test.YtfdmcleopakmcaaOpenConfForms
set_option linter.unusedVariables false
set_option linter.unusedSimpArgs false
namespace Go.Proofs.Ytfdmcleopakmcaa.Pure
open Go.RowKit Go.Proofs.Ytfdmcleopakmcaa.PConfForms Go.Proofs.YtfdmcleopakmcaaW.PrintWords Go.Proofs.YtfdmcleopakmcaaW.PrintLast Go.Proofs.YtfdmcleopakmcaaW.PrintMore

/-- Nothing is left to prove: the walk shows that each way ends in true. -/
theorem ConfForms : wharfagelaw10_ConfForms.PureX := fun _ _ _ _ => rfl

end Go.Proofs.Ytfdmcleopakmcaa.Pure
