/- Of any sends, takes and copies each answer, and the row, is as the document has it. -/
import Derived.Test.YtkgjnckkfiepaaaPNetsx5
import Derived.Test.YtkgjnckkfiepaaaOpenNets
set_option linter.unusedVariables false
set_option linter.unusedSimpArgs false
namespace Go.Proofs.Ytkgjnckkfiepaaa.Pure
open Go.RowKit Go.Proofs.Ytkgjnckkfiepaaa.PNets Go.Proofs.YtkgjnckkfiepaaaW.PrintWords Go.Proofs.YtkgjnckkfiepaaaW.PrintLast Go.Proofs.YtkgjnckkfiepaaaW.PrintMore

/-- The walk shows that it ends in true. -/
theorem Nets : wharfagelaw22_Nets.PureX := by
  intro x0 x1 _ _
  rfl

end Go.Proofs.Ytkgjnckkfiepaaa.Pure
