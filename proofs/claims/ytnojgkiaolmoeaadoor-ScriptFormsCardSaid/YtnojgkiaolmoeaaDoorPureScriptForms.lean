/- Acts that may not be and texts that are none are told so. -/
import Derived.Test.YtnojgkiaolmoeaaDoorPScx35
import Derived.Test.YtnojgkiaolmoeaaDoorOpenScriptForms
set_option linter.unusedVariables false
set_option linter.unusedSimpArgs false
namespace Go.Proofs.YtnojgkiaolmoeaaDoor.Pure
open Go.RowKit Go.Proofs.YtnojgkiaolmoeaaDoor.PSc Go.Proofs.YtnojgkiaolmoeaaDoorW.PrintWords Go.Proofs.YtnojgkiaolmoeaaDoorW.PrintLast Go.Proofs.YtnojgkiaolmoeaaDoorW.PrintMore

theorem ScriptForms : wharfagelaw23_ScriptForms.PureX := fun _ _ _ _ => rfl

end Go.Proofs.YtnojgkiaolmoeaaDoor.Pure
