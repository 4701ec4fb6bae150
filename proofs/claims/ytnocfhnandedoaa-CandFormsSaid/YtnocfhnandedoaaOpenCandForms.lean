/- How the arguments of the law CandForms read; its one pure statement; its walk. -/
import Derived.Test.YtnocfhnandedoaaPCandFormsx0
import Derived.Test.YtnocfhnandedoaaPCandFormsx14
import Derived.Test.YtnocfhnandedoaaRead
namespace Go.Proofs.Ytnocfhnandedoaa.PCandForms
open Go.RowKit Go.Proofs.YtnocfhnandedoaaW.PrintWords Go.Proofs.YtnocfhnandedoaaW.PrintLast Go.Proofs.YtnocfhnandedoaaW.PrintMore
open Go.Proofs.Ytnocfhnandedoaa.Read
set_option linter.unusedVariables false
set_option linter.unusedSimpArgs false
def wharfagelaw13_CandForms.PureX : Prop := ∀ (x0 : Int) (x1 : Int), ((Lit.int .i64 x0).wf = true) → ((Lit.int .i64 x1).wf = true) → wharfagelaw13_CandForms.f x0 x1 = some true
theorem wharfagelaw13_CandForms.walkX (P : wharfagelaw13_CandForms.PureX) (w : World) (x0 : Int) (G0 : (Lit.int .i64 x0).wf = true) (x1 : Int) (G1 : (Lit.int .i64 x1).wf = true) :
    Calls Try.prog 9 #[.int .i64 x0, .int .i64 x1] w fun e w' => e = .returned (.bool true) ∧ Below w.heap.size w w' := by
  have h := P x0 x1 G0 G1
  refine (wharfagelaw13_CandForms.calls x0 x1 true w  h).mono ?_
  rintro e w' ⟨rfl, hd⟩
  exact ⟨rfl, hd⟩
end Go.Proofs.Ytnocfhnandedoaa.PCandForms
