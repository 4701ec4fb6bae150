/- How the arguments of the law ViewForms read; its one pure statement; its walk. -/
import Derived.Test.YtnocfhnandedoabPViewx0
import Derived.Test.YtnocfhnandedoabPViewx15
import Derived.Test.YtnocfhnandedoabRead
namespace Go.Proofs.Ytnocfhnandedoab.PView
open Go.RowKit Go.Proofs.YtnocfhnandedoabW.PrintWords Go.Proofs.YtnocfhnandedoabW.PrintLast Go.Proofs.YtnocfhnandedoabW.PrintMore
open Go.Proofs.Ytnocfhnandedoab.Read
set_option linter.unusedVariables false
set_option linter.unusedSimpArgs false
def wharfagelaw12_ViewForms.PureX : Prop := ∀ (x0 : Int) (x1 : Int), ((Lit.int .i64 x0).wf = true) → ((Lit.int .i64 x1).wf = true) → wharfagelaw12_ViewForms.f x0 x1 = some true
theorem wharfagelaw12_ViewForms.walkX (P : wharfagelaw12_ViewForms.PureX) (w : World) (x0 : Int) (G0 : (Lit.int .i64 x0).wf = true) (x1 : Int) (G1 : (Lit.int .i64 x1).wf = true) :
    Calls Try.prog 12 #[.int .i64 x0, .int .i64 x1] w fun e w' => e = .returned (.bool true) ∧ Below w.heap.size w w' := by
  have h := P x0 x1 G0 G1
  refine (wharfagelaw12_ViewForms.calls x0 x1 true w  h).mono ?_
  rintro e w' ⟨rfl, hd⟩
  exact ⟨rfl, hd⟩
end Go.Proofs.Ytnocfhnandedoab.PView
