/- Packets and places that are none are told as such; a full net takes no more. -/
import Derived.Test.YtkgjnckkfiepaaaPNetFormsx2
import Derived.Test.YtkgjnckkfiepaaaOpenNetForms
set_option linter.unusedVariables false
set_option linter.unusedSimpArgs false
namespace Go.Proofs.Ytkgjnckkfiepaaa.Pure
open Go.RowKit Go.Proofs.Ytkgjnckkfiepaaa.PNetForms Go.Proofs.YtkgjnckkfiepaaaW.PrintWords Go.Proofs.YtkgjnckkfiepaaaW.PrintLast Go.Proofs.YtkgjnckkfiepaaaW.PrintMore

/-- The walk shows that it ends in true. -/
theorem NetForms : wharfagelaw22_NetForms.PureX := by
  intro x0 _
  rfl

end Go.Proofs.Ytkgjnckkfiepaaa.Pure
