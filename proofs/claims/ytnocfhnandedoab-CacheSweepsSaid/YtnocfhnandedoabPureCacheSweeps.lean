/- A sweep parts a cache in two, in their row; what stays is found, what goes is not. -/
import Derived.Test.YtnocfhnandedoabPCacheSweepsx14
import Derived.Test.YtnocfhnandedoabOpenCacheSweeps
set_option linter.unusedVariables false
set_option linter.unusedSimpArgs false
namespace Go.Proofs.Ytnocfhnandedoab.Pure
open Go.RowKit Go.Proofs.Ytnocfhnandedoab.PCacheSweeps Go.Proofs.YtnocfhnandedoabW.PrintWords Go.Proofs.YtnocfhnandedoabW.PrintLast Go.Proofs.YtnocfhnandedoabW.PrintMore

theorem CacheSweeps : wharfagelaw16_CacheSweeps.PureX := fun l0 a1 _ _ => rfl

end Go.Proofs.Ytnocfhnandedoab.Pure
