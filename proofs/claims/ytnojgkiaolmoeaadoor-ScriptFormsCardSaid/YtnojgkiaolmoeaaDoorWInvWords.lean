/- Words of the print, cut down to what this proof names (by a program of this session). -/
import Derived.Test.YtnojgkiaolmoeaaDoorWInv
import Derived.Test.YtnojgkiaolmoeaaDoorWFootNe
namespace Go.Proofs.YtnojgkiaolmoeaaDoorW.PrintWords
open Go.RowKit
end Go.Proofs.YtnojgkiaolmoeaaDoorW.PrintWords
namespace Go.Proofs.YtnojgkiaolmoeaaDoorW.PrintLast
section
variable {ops : Array Oper} {a : Act} {o og : Oper} {g : Nat} {t : Tmp} {u : Bool}
end
end Go.Proofs.YtnojgkiaolmoeaaDoorW.PrintLast
