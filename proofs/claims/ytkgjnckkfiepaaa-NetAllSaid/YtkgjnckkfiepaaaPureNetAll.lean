/- What is told of a net is its own: written over it turns nothing; nets do not meet. -/
import Derived.Test.YtkgjnckkfiepaaaPNetAllx4
import Derived.Test.YtkgjnckkfiepaaaOpenNetAll
set_option linter.unusedVariables false
set_option linter.unusedSimpArgs false
namespace Go.Proofs.Ytkgjnckkfiepaaa.Pure
open Go.RowKit Go.Proofs.Ytkgjnckkfiepaaa.PNetAll Go.Proofs.YtkgjnckkfiepaaaW.PrintWords Go.Proofs.YtkgjnckkfiepaaaW.PrintLast Go.Proofs.YtkgjnckkfiepaaaW.PrintMore

/-- The walk shows that it ends in true. -/
theorem NetAll : wharfagelaw22_NetAll.PureX := by
  intro x0 _
  rfl

end Go.Proofs.Ytkgjnckkfiepaaa.Pure
