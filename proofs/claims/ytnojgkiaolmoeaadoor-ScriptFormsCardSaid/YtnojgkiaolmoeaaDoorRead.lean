/- How arguments that are structs, or slices of structs, read as the values that the printed functions take. -/
import Derived.WalkKit
import Derived.ProofKit
import Derived.OpenShut
import Derived.ShutString
import Derived.ChangeOld
import Derived.Below
import Derived.SizedLaws
import Derived.Deep.Slices
import Derived.Test.YtnojgkiaolmoeaaDoorWWords
set_option linter.unusedVariables false
namespace Go.Proofs.YtnojgkiaolmoeaaDoor.Read
open Go.RowKit Go.Proofs.YtnojgkiaolmoeaaDoorW.PrintWords
open Go.ChangeShapes Go.WideShapes
open Go.ChangeMaps (open_string shut_string)

variable {P : Program}

end Go.Proofs.YtnojgkiaolmoeaaDoor.Read
