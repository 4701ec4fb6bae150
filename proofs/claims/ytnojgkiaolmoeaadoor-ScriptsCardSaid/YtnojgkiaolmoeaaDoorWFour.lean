/- Words of the print, cut down to what this proof names (by a program of this session). -/
import Derived.Test.YtnojgkiaolmoeaaDoorWTab
/-! ### 56. Four, five, six operations that may come up next, in any order -/
namespace Go.Proofs.YtnojgkiaolmoeaaDoorW.PrintLast
section
variable {P : Program} {ops : Array Oper} {Q : Exit → Act → World → Prop} {md : Region.Mode} {S : World → Prop} {ds : List Nat} {T : Bool × List (List Nat × List Nat)}
end
end Go.Proofs.YtnojgkiaolmoeaaDoorW.PrintLast
