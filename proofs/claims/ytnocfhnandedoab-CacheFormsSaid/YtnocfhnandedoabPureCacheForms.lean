/- Caches, entries, times that may not be are told as such. -/
import Derived.Test.YtnocfhnandedoabPCacheFormsx15
import Derived.Test.YtnocfhnandedoabOpenCacheForms
set_option linter.unusedVariables false
set_option linter.unusedSimpArgs false
namespace Go.Proofs.Ytnocfhnandedoab.Pure
open Go.RowKit Go.Proofs.Ytnocfhnandedoab.PCacheForms Go.Proofs.YtnocfhnandedoabW.PrintWords Go.Proofs.YtnocfhnandedoabW.PrintLast Go.Proofs.YtnocfhnandedoabW.PrintMore

/-- Nothing is left to prove: the walk shows that each way ends in true. -/
theorem CacheForms : wharfagelaw16_CacheForms.PureX := fun _ _ _ _ => rfl

end Go.Proofs.Ytnocfhnandedoab.Pure
