/- A report is used until its ticks have gone by; an elder one is not taken; other sites are not touched. -/
import Derived.Test.YtnocfhnandedoabPViewx12
import Derived.Test.YtnocfhnandedoabOpenViewStale
set_option linter.unusedVariables false
set_option linter.unusedSimpArgs false
namespace Go.Proofs.Ytnocfhnandedoab.Pure
open Go.RowKit Go.Proofs.Ytnocfhnandedoab.PView Go.Proofs.YtnocfhnandedoabW.PrintWords Go.Proofs.YtnocfhnandedoabW.PrintLast Go.Proofs.YtnocfhnandedoabW.PrintMore

/-- Nothing is left to prove: the walk shows that each way ends in true. -/
theorem ViewStale : wharfagelaw12_ViewStale.PureX := fun _ _ _ _ _ _ _ _ _ _ _ _ _ _ => rfl

end Go.Proofs.Ytnocfhnandedoab.Pure
