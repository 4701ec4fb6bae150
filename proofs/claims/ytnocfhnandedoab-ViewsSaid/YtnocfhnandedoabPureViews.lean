/- The views of the program are the document's: reports taken, room, what may be. -/
import Derived.Test.YtnocfhnandedoabPViewx24
import Derived.Test.YtnocfhnandedoabOpenViews
set_option linter.unusedVariables false
set_option linter.unusedSimpArgs false
namespace Go.Proofs.Ytnocfhnandedoab.Pure
open Go.RowKit Go.Proofs.Ytnocfhnandedoab.PView Go.Proofs.YtnocfhnandedoabW.PrintWords Go.Proofs.YtnocfhnandedoabW.PrintLast Go.Proofs.YtnocfhnandedoabW.PrintMore

/-- The walk shows that it ends in true; its bound on the length holds of every slice. -/
theorem Views : wharfagelaw12_Views.PureX := by
  intro x0 x1 x2 x3 h _ _ _
  unfold wharfagelaw12_Views.f
  exact if_pos (by omega)

end Go.Proofs.Ytnocfhnandedoab.Pure
