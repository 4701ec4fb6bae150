/- Words of the print, cut down to what this proof names (by a program of this session). -/
import Derived.Test.YtlapbhgkmmeeoaaWInv
import Derived.Test.YtlapbhgkmmeeoaaWFootNe
namespace Go.Proofs.YtlapbhgkmmeeoaaW.PrintWords
open Go.RowKit
end Go.Proofs.YtlapbhgkmmeeoaaW.PrintWords
namespace Go.Proofs.YtlapbhgkmmeeoaaW.PrintLast
section
variable {ops : Array Oper} {a : Act} {o og : Oper} {g : Nat} {t : Tmp} {u : Bool}
end
end Go.Proofs.YtlapbhgkmmeeoaaW.PrintLast
