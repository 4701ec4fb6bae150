/- How the arguments of the law ConfForms read; its one pure statement; its walk. -/
import Derived.Test.YtfdmcleopakmcaaPConfFormsx0
import Derived.Test.YtfdmcleopakmcaaPConfFormsx10
import Derived.Test.YtfdmcleopakmcaaRead
namespace Go.Proofs.Ytfdmcleopakmcaa.PConfForms
open Go.RowKit Go.Proofs.YtfdmcleopakmcaaW.PrintWords Go.Proofs.YtfdmcleopakmcaaW.PrintLast Go.Proofs.YtfdmcleopakmcaaW.PrintMore
open Go.Proofs.Ytfdmcleopakmcaa.Read
set_option linter.unusedVariables false
set_option linter.unusedSimpArgs false
def wharfagelaw10_ConfForms.PureX : Prop := ∀ (x0 : Int) (x1 : Int), ((Lit.int .i64 x0).wf = true) → ((Lit.int .i64 x1).wf = true) → wharfagelaw10_ConfForms.f x0 x1 = some true
theorem wharfagelaw10_ConfForms.walkX (P : wharfagelaw10_ConfForms.PureX) (w : World) (x0 : Int) (G0 : (Lit.int .i64 x0).wf = true) (x1 : Int) (G1 : (Lit.int .i64 x1).wf = true) :
    Calls Try.prog 4 #[.int .i64 x0, .int .i64 x1] w fun e w' => e = .returned (.bool true) ∧ Below w.heap.size w w' := by
  have h := P x0 x1 G0 G1
  refine (wharfagelaw10_ConfForms.calls x0 x1 true w  h).mono ?_
  rintro e w' ⟨rfl, hd⟩
  exact ⟨rfl, hd⟩
end Go.Proofs.Ytfdmcleopakmcaa.PConfForms
