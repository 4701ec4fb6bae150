/- How the arguments of the law ReportForms read; its one pure statement; its walk. -/
import Derived.Test.YtnocfhnandedoaaPRFormx0
import Derived.Test.YtnocfhnandedoaaPRFormx12
import Derived.Test.YtnocfhnandedoaaRead
namespace Go.Proofs.Ytnocfhnandedoaa.PRForm
open Go.RowKit Go.Proofs.YtnocfhnandedoaaW.PrintWords Go.Proofs.YtnocfhnandedoaaW.PrintLast Go.Proofs.YtnocfhnandedoaaW.PrintMore
open Go.Proofs.Ytnocfhnandedoaa.Read
set_option linter.unusedVariables false
set_option linter.unusedSimpArgs false
def wharfagelaw7_ReportForms.PureX : Prop := ∀ (x0 : Int) (x1 : Int), ((Lit.int .i64 x0).wf = true) → ((Lit.int .i64 x1).wf = true) → wharfagelaw7_ReportForms.f x0 x1 = some true
theorem wharfagelaw7_ReportForms.walkX (P : wharfagelaw7_ReportForms.PureX) (w : World) (x0 : Int) (G0 : (Lit.int .i64 x0).wf = true) (x1 : Int) (G1 : (Lit.int .i64 x1).wf = true) :
    Calls Try.prog 5 #[.int .i64 x0, .int .i64 x1] w fun e w' => e = .returned (.bool true) ∧ Below w.heap.size w w' := by
  have h := P x0 x1 G0 G1
  refine (wharfagelaw7_ReportForms.calls x0 x1 true w  h).mono ?_
  rintro e w' ⟨rfl, hd⟩
  exact ⟨rfl, hd⟩
end Go.Proofs.Ytnocfhnandedoaa.PRForm
