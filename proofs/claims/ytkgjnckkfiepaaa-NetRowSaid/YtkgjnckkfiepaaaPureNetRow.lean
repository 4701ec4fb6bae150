/- What was sent first stands first; what is taken out closes up; what is copied stands last. -/
import Derived.Test.YtkgjnckkfiepaaaPNetRowx3
import Derived.Test.YtkgjnckkfiepaaaOpenNetRow
set_option linter.unusedVariables false
set_option linter.unusedSimpArgs false
namespace Go.Proofs.Ytkgjnckkfiepaaa.Pure
open Go.RowKit Go.Proofs.Ytkgjnckkfiepaaa.PNetRow Go.Proofs.YtkgjnckkfiepaaaW.PrintWords Go.Proofs.YtkgjnckkfiepaaaW.PrintLast Go.Proofs.YtkgjnckkfiepaaaW.PrintMore

/-- The walk shows that it ends in true. -/
theorem NetRow : wharfagelaw22_NetRow.PureX := by
  intro x0 _
  rfl

end Go.Proofs.Ytkgjnckkfiepaaa.Pure
