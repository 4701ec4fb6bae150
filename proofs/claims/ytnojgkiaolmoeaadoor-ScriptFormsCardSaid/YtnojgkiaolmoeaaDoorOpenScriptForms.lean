/- How the arguments of the law ScriptForms read; its one pure statement; its walk. -/
import Derived.Test.YtnojgkiaolmoeaaDoorPScx0
import Derived.Test.YtnojgkiaolmoeaaDoorPScx35
import Derived.Test.YtnojgkiaolmoeaaDoorRead
namespace Go.Proofs.YtnojgkiaolmoeaaDoor.PSc
open Go.RowKit Go.Proofs.YtnojgkiaolmoeaaDoorW.PrintWords Go.Proofs.YtnojgkiaolmoeaaDoorW.PrintLast Go.Proofs.YtnojgkiaolmoeaaDoorW.PrintMore
open Go.Proofs.YtnojgkiaolmoeaaDoor.Read
set_option linter.unusedVariables false
set_option linter.unusedSimpArgs false
def wharfagelaw23_ScriptForms.PureX : Prop := ∀ (x0 : Int) (x1 : Int), ((Lit.int .i64 x0).wf = true) → ((Lit.int .i64 x1).wf = true) → wharfagelaw23_ScriptForms.f x0 x1 = some true
theorem wharfagelaw23_ScriptForms.walkX (P : wharfagelaw23_ScriptForms.PureX) (w : World) (ht : Take.Laid w) (x0 : Int) (G0 : (Lit.int .i64 x0).wf = true) (x1 : Int) (G1 : (Lit.int .i64 x1).wf = true) :
    Calls Tryd.prog 5 #[.int .i64 x0, .int .i64 x1] w fun e w' => e = .returned (.bool true) ∧ Below w.heap.size w w' := by
  have h := P x0 x1 G0 G1
  refine (wharfagelaw23_ScriptForms.calls x0 x1 true w  ht h).mono ?_
  rintro e w' ⟨rfl, hd⟩
  exact ⟨rfl, hd⟩
end Go.Proofs.YtnojgkiaolmoeaaDoor.PSc
