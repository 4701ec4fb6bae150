/- Just what there is is there. -/
import Derived.Test.YtcefplpmpmlboabPConfx13
import Derived.Test.YtcefplpmpmlboabOpenConfHas
set_option linter.unusedVariables false
set_option linter.unusedSimpArgs false
namespace Go.Proofs.Ytcefplpmpmlboab.Pure
open Go.RowKit Go.Proofs.Ytcefplpmpmlboab.PConf Go.Proofs.YtcefplpmpmlboabW.PrintWords Go.Proofs.YtcefplpmpmlboabW.PrintLast Go.Proofs.YtcefplpmpmlboabW.PrintMore

theorem ConfHas : wharfagelaw10_ConfHas.PureX := fun _ _ => rfl

end Go.Proofs.Ytcefplpmpmlboab.Pure
